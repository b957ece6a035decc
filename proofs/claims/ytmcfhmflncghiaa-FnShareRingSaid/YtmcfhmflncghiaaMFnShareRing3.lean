/- Part 3 of what the proof of this law rests on: the functions of the translation as plain Lean functions with their walks, and the plain laws behind. -/
import Derived.BigQuiet
import Derived.BigRegion
import Derived.Test.YtmcfhmflncghiaaMFnShareRing2
namespace Go.Proofs.Ytmcfhmflncghiaa.Q
open Go.RowKit Go.Proofs.YtmcfhmflncghiaaW.PrintWords Go.Proofs.YtmcfhmflncghiaaW.PrintLast Go.Proofs.YtmcfhmflncghiaaW.PrintMore
attribute [local go_sem] max2_int min2_int max_two min_two max_three min_three max_four min_four
set_option linter.unusedVariables false
set_option linter.unusedSimpArgs false

/-! ### impl_treeWay: function 49 -/
def impl_treeWay.f (l0 : List (S32)) (l1 : List Int) (a2 : Int) (a3 : Int) : Option (List Int) := Go.Proofs.Ytmcfhmflncghiaa.TreeW.treeR 100 l0 l1 a2 a3
theorem impl_treeWay.calls (A0 : Option Addr) (c0 : Nat) (l0 : List (S32)) (A1 : Option Addr) (c1 : Nat) (l1 : List Int) (a2 : Int) (a3 : Int) (r : List Int) (w : World) (hr0 : Kd.C k32 w A0 l0.length l0) (hc0 : l0.length ≤ c0) (hr1 : Kd.C (Kd.int .i64) w A1 l1.length l1) (hc1 : l1.length ≤ c1) (h : impl_treeWay.f l0 l1 a2 a3 = some r) :
    Calls Try.prog 49 #[.slice A0 l0.length c0, .slice A1 l1.length c1, .int .i64 a2, .int .i64 a3] w fun e w' => ∃ v0_ : Value, e = .returned (v0_) ∧ Kd.R (Kd.int .i64) 3 w' w.heap.size (fun _ => True) v0_ r ∧ Below w.heap.size w w' :=
  Go.Proofs.Ytmcfhmflncghiaa.TreeW.tree_calls 100 A0 c0 l0 A1 c1 l1 a2 a3 r w hr0 hc0 hr1 hc1 h

end Go.Proofs.Ytmcfhmflncghiaa.Q
namespace Go.Proofs.Ytmcfhmflncghiaa.Q
open Go.RowKit Go.Proofs.YtmcfhmflncghiaaW.PrintWords Go.Proofs.YtmcfhmflncghiaaW.PrintLast Go.Proofs.YtmcfhmflncghiaaW.PrintMore
attribute [local go_sem] max2_int min2_int max_two min_two max_three min_three max_four min_four
set_option linter.unusedVariables false
set_option linter.unusedSimpArgs false

/-! ### impl_LoopOf: function 30 -/
def impl_LoopOf.f (k : Nat) (a0 : Int) (l1 : List (S32)) (a2 : Int) : Option (List Int × Bool) := (impl_TreeFirst.f k a0 l1).bind fun bt245 => (if bt245.2 = true then (if a2 < 0 then (some ((([] : List Int)), false)) else (if a2 ≥ (l1.length : Int) then (some ((([] : List Int)), false)) else ((slices_Contains_int_int.f k bt245.1 a2).bind fun t255 => (if t255 = true then (some ((([] : List Int)), false)) else ((some (([wrap64 (a2 + 1)] : List Int) : List Int)).bind fun y259 => (if 0 ≤ a2 then (if a2 < (l1.length : Int) then ((impl_treeWay.f l1 bt245.1 ((rd_T32 l1 a2).f1) ((rd_T32 l1 a2).f0)).bind fun t264 => (if y259.length + t264.length < 17592186044416 then (some ((y259 ++ t264), true)) else (none))) else (none)) else (none))))))) else (some ((([] : List Int)), false)))
def impl_LoopOf.T4 : Bool × List (List Nat × List Nat) := (true, [([], []), ([0], [0]), ([1], [1]), ([], []), ([], []), ([], []), ([], []), ([5, 6], [5, 6]), ([7], [7]), ([8], [8]), ([], []), ([], []), ([10, 11], [10, 11]), ([12], [12]), ([13], [13]), ([3, 4, 9, 14], [3, 4, 9, 14]), ([2, 15, 15], [2, 15]), ([16, 16, 0, 1, 2, 3, 4, 5, 6, 7, 8, 9, 10, 11, 12, 13, 14, 15, 16], [16]), ([17, 0, 1, 2, 3, 4, 5, 6, 7, 8, 9, 10, 11, 12, 13, 14, 15, 16, 17], [])])
def impl_LoopOf.B4 : List Nat := [0, 1, 3, 0, 0, 0, 0, 96, 224, 480, 0, 0, 3072, 7168, 15360, 32760, 65535, 131071, 262143]
theorem impl_LoopOf.tab4 : rtab .any (opsOf Try.f30 4) = impl_LoopOf.T4 := by kernel_rfl
theorem impl_LoopOf.bits4 : waitsOk impl_LoopOf.T4.2 impl_LoopOf.B4 = true := by kernel_rfl
set_option maxHeartbeats 8000000 in
set_option maxRecDepth 100000 in
theorem impl_LoopOf.calls (k : Nat) (a0 : Int) (A1 : Option Addr) (c1 : Nat) (l1 : List (S32)) (a2 : Int) (r1 : List Int) (r2 : Bool) (w : World) (hr1 : Kd.C k32 w A1 l1.length l1) (hc1 : l1.length ≤ c1) (h : impl_LoopOf.f k a0 l1 a2 = some (r1, r2)) :
    Calls Try.prog 30 #[.int .i64 a0, .slice A1 l1.length c1, .int .i64 a2] w fun e w' => ∃ v0_ : Value, e = .returned (.tuple #[v0_, .bool r2]) ∧ Kd.R (Kd.int .i64) 3 w' w.heap.size (fun _ => True) v0_ r1 ∧ Below w.heap.size w w' := by
  have HR1 := Aside0.mk hr1
  have HC1 := Aside0.mk hc1
  clear hr1 hc1
  have HB := Aside0.mk (Below.refl w.heap.size w)
  have H : ((impl_TreeFirst.f k a0 l1).bind fun bt245 => (if bt245.2 = true then (if a2 < 0 then (some ((([] : List Int)), false)) else (if a2 ≥ (l1.length : Int) then (some ((([] : List Int)), false)) else ((slices_Contains_int_int.f k bt245.1 a2).bind fun t255 => (if t255 = true then (some ((([] : List Int)), false)) else ((some (([wrap64 (a2 + 1)] : List Int) : List Int)).bind fun y259 => (if 0 ≤ a2 then (if a2 < (l1.length : Int) then ((impl_treeWay.f l1 bt245.1 ((rd_T32 l1 a2).f1) ((rd_T32 l1 a2).f0)).bind fun t264 => (if y259.length + t264.length < 17592186044416 then (some ((y259 ++ t264), true)) else (none))) else (none)) else (none))))))) else (some ((([] : List Int)), false)))) = some (r1, r2) := h
  clear h
  replace H := Option.bind_eq_some_iff.mp H
  obtain ⟨⟨t245, t246⟩, A40, H⟩ := H
  replace H : (if t246 = true then (if a2 < 0 then (some ((([] : List Int)), false)) else (if a2 ≥ (l1.length : Int) then (some ((([] : List Int)), false)) else ((slices_Contains_int_int.f k t245 a2).bind fun t255 => (if t255 = true then (some ((([] : List Int)), false)) else ((some (([wrap64 (a2 + 1)] : List Int) : List Int)).bind fun y259 => (if 0 ≤ a2 then (if a2 < (l1.length : Int) then ((impl_treeWay.f l1 t245 ((rd_T32 l1 a2).f1) ((rd_T32 l1 a2).f0)).bind fun t264 => (if y259.length + t264.length < 17592186044416 then (some ((y259 ++ t264), true)) else (none))) else (none)) else (none))))))) else (some ((([] : List Int)), false))) = some (r1, r2) := H
  have A4 := Aside0.mk A40
  clear A40
  by_cases c5 : t246 = true
  · subst c5
    have H1 : (if a2 < 0 then (some ((([] : List Int)), false)) else (if a2 ≥ (l1.length : Int) then (some ((([] : List Int)), false)) else ((slices_Contains_int_int.f k t245 a2).bind fun t255 => (if t255 = true then (some ((([] : List Int)), false)) else ((some (([wrap64 (a2 + 1)] : List Int) : List Int)).bind fun y259 => (if 0 ≤ a2 then (if a2 < (l1.length : Int) then ((impl_treeWay.f l1 t245 ((rd_T32 l1 a2).f1) ((rd_T32 l1 a2).f0)).bind fun t264 => (if y259.length + t264.length < 17592186044416 then (some ((y259 ++ t264), true)) else (none))) else (none)) else (none))))))) = some (r1, r2) := by rw [if_pos rfl] at H; exact H
    clear H
    have H := H1
    clear H1
    by_cases c6 : a2 < 0
    · rw [if_pos c6] at H
      have c6b0 : decide (a2 < 0) = true := decide_eq_true c6
      clear c6
      obtain ⟨y249, hy249⟩ : ∃ y_ : List Int, y_ = (([] : List Int)) := ⟨_, rfl⟩
      replace H : (some (y249, false)) = some (r1, r2) := by first | (rw [hy249]; with_reducible exact H) | (have H2_ := (Option.bind_some _ _).symm.trans H; rw [hy249]; with_reducible exact H2_) | (have H2_ := (Option.bind_some _ _).symm.trans H; with_reducible exact H2_) | with_reducible exact H | (rw [hy249]; exact H) | exact H
      have Ny249 := Aside0.mk hy249
      clear hy249
      simp only [Option.some.injEq, Prod.mk.injEq] at H
      obtain ⟨rfl, rfl⟩ := H
      go_enter Try.func30, Try.ntmps30
      go_wp2_with (first | ((with_reducible refine gate_callee (f := 10) rfl ?_); refine goesL_ (some 13) rfl rfl Try.func10 (by kernel_rfl) rfl #[.int .i64 a0, .slice A1 l1.length c1] rfl qq5 ?_; (with_reducible refine (impl_TreeFirst.calls k a0 _ _ l1 t245 true _ ?side1 ?side2 A4.out).mono ?_); (case side1 => exact qq14 HR1.out); (case side2 => exact HC1.out); rintro e w7 ⟨v247, rfl, ho0, hb⟩; refine ⟨_, rfl, ?_⟩; have n0_ := Aside0.mk (Kd.R_lower ho0 (below_size qq1)); have n1_ := Aside0.mk (below_step qq1 hb); clear HB; have HO248 := n0_; have HB := n1_; clear n0_ n1_; (try clear hb); (try clear hb2); (try clear hk); (try clear hi); (try clear ho0)) | ((with_reducible refine gate_dst (N := 33) rfl ?_); (try (refine gate_guard (by rfl) ?_; dsimp only)); refine Kd.R_lit (Kd.int .i64) _ 3 ?hg (N := 33) ?hd (xs := ([] : List Int)) (inner := []) (ok := fun _ => True) (okp := fun _ => True) ?hr ?hp (fun _ hk => hk) trivial (Below.refl _ _) (Nat.le_refl _) (by simp) ?_; (case hd => rfl); (case hg => rfl); (case hr => exact qq18); (case hp => exact (Reps.none _ _)); intro v250 w8 ho9 hb hg_ hnew_; clear hg_ hnew_; (first | rw [← Ny249.out] at ho9 | (simp only [Int.reduceToNat] at ho9; rw [← Ny249.out] at ho9)); have n0_ := Aside0.mk (Kd.R_elder' (qq2 HO248.out) (Kd.R_base ho9) hb); have n1_ := Aside0.mk (Kd.R_lower (Kd.R_new' ho9 (Kd.R_lt (qq2 HO248.out))) (below_size qq1)); have n2_ := Aside0.mk (below_step qq1 hb); clear HO248; clear HB; have HO248 := n0_; have HO251 := n1_; have HB := n2_; clear n0_ n1_ n2_; clear hb ho9))
      go_ret2
      exact ⟨_, qq12, qq17 HO251.out, qq1⟩
    · rw [if_neg c6] at H
      have c6b0 : decide (a2 < 0) = false := decide_eq_false c6
      clear c6
      by_cases c10 : a2 ≥ (l1.length : Int)
      · rw [if_pos c10] at H
        have c10b0 : decide ((l1.length : Int) ≤ a2) = true := decide_eq_true c10
        clear c10
        obtain ⟨y252, hy252⟩ : ∃ y_ : List Int, y_ = (([] : List Int)) := ⟨_, rfl⟩
        replace H : (some (y252, false)) = some (r1, r2) := by first | (rw [hy252]; with_reducible exact H) | (have H2_ := (Option.bind_some _ _).symm.trans H; rw [hy252]; with_reducible exact H2_) | (have H2_ := (Option.bind_some _ _).symm.trans H; with_reducible exact H2_) | with_reducible exact H | (rw [hy252]; exact H) | exact H
        have Ny252 := Aside0.mk hy252
        clear hy252
        simp only [Option.some.injEq, Prod.mk.injEq] at H
        obtain ⟨rfl, rfl⟩ := H
        go_enter Try.func30, Try.ntmps30
        go_wp2_with (first | ((with_reducible refine gate_callee (f := 10) rfl ?_); refine goesL_ (some 13) rfl rfl Try.func10 (by kernel_rfl) rfl #[.int .i64 a0, .slice A1 l1.length c1] rfl qq5 ?_; (with_reducible refine (impl_TreeFirst.calls k a0 _ _ l1 t245 true _ ?side1 ?side2 A4.out).mono ?_); (case side1 => exact qq14 HR1.out); (case side2 => exact HC1.out); rintro e w11 ⟨v247, rfl, ho0, hb⟩; refine ⟨_, rfl, ?_⟩; have n0_ := Aside0.mk (Kd.R_lower ho0 (below_size qq1)); have n1_ := Aside0.mk (below_step qq1 hb); clear HB; have HO248 := n0_; have HB := n1_; clear n0_ n1_; (try clear hb); (try clear hb2); (try clear hk); (try clear hi); (try clear ho0)) | ((with_reducible refine gate_dst (N := 33) rfl ?_); (try (refine gate_guard (by rfl) ?_; dsimp only)); refine Kd.R_lit (Kd.int .i64) _ 3 ?hg (N := 33) ?hd (xs := ([] : List Int)) (inner := []) (ok := fun _ => True) (okp := fun _ => True) ?hr ?hp (fun _ hk => hk) trivial (Below.refl _ _) (Nat.le_refl _) (by simp) ?_; (case hd => rfl); (case hg => rfl); (case hr => exact qq18); (case hp => exact (Reps.none _ _)); intro v253 w12 ho13 hb hg_ hnew_; clear hg_ hnew_; (first | rw [← Ny252.out] at ho13 | (simp only [Int.reduceToNat] at ho13; rw [← Ny252.out] at ho13)); have n0_ := Aside0.mk (Kd.R_elder' (qq2 HO248.out) (Kd.R_base ho13) hb); have n1_ := Aside0.mk (Kd.R_lower (Kd.R_new' ho13 (Kd.R_lt (qq2 HO248.out))) (below_size qq1)); have n2_ := Aside0.mk (below_step qq1 hb); clear HO248; clear HB; have HO248 := n0_; have HO254 := n1_; have HB := n2_; clear n0_ n1_ n2_; clear hb ho13))
        go_ret2
        exact ⟨_, qq12, qq17 HO254.out, qq1⟩
      · rw [if_neg c10] at H
        have c10b0 : decide ((l1.length : Int) ≤ a2) = false := decide_eq_false c10
        clear c10
        replace H := Option.bind_eq_some_iff.mp H
        obtain ⟨t255, A140, H⟩ := H
        replace H : (if t255 = true then (some ((([] : List Int)), false)) else ((some (([wrap64 (a2 + 1)] : List Int) : List Int)).bind fun y259 => (if 0 ≤ a2 then (if a2 < (l1.length : Int) then ((impl_treeWay.f l1 t245 ((rd_T32 l1 a2).f1) ((rd_T32 l1 a2).f0)).bind fun t264 => (if y259.length + t264.length < 17592186044416 then (some ((y259 ++ t264), true)) else (none))) else (none)) else (none)))) = some (r1, r2) := H
        have A14 := Aside0.mk A140
        clear A140
        by_cases c15 : t255 = true
        · subst c15
          have H1 : (some ((([] : List Int)), false)) = some (r1, r2) := by rw [if_pos rfl] at H; exact H
          clear H
          have H := H1
          clear H1
          obtain ⟨y256, hy256⟩ : ∃ y_ : List Int, y_ = (([] : List Int)) := ⟨_, rfl⟩
          replace H : (some (y256, false)) = some (r1, r2) := by first | (rw [hy256]; with_reducible exact H) | (have H2_ := (Option.bind_some _ _).symm.trans H; rw [hy256]; with_reducible exact H2_) | (have H2_ := (Option.bind_some _ _).symm.trans H; with_reducible exact H2_) | with_reducible exact H | (rw [hy256]; exact H) | exact H
          have Ny256 := Aside0.mk hy256
          clear hy256
          simp only [Option.some.injEq, Prod.mk.injEq] at H
          obtain ⟨rfl, rfl⟩ := H
          go_enter Try.func30, Try.ntmps30
          go_wp2_with (first | ((with_reducible refine gate_callee (f := 10) rfl ?_); refine goesL_ (some 13) rfl rfl Try.func10 (by kernel_rfl) rfl #[.int .i64 a0, .slice A1 l1.length c1] rfl qq5 ?_; (with_reducible refine (impl_TreeFirst.calls k a0 _ _ l1 t245 true _ ?side1 ?side2 A4.out).mono ?_); (case side1 => exact qq14 HR1.out); (case side2 => exact HC1.out); rintro e w16 ⟨v247, rfl, ho0, hb⟩; refine ⟨_, rfl, ?_⟩; have n0_ := Aside0.mk (Kd.R_lower ho0 (below_size qq1)); have n1_ := Aside0.mk (below_step qq1 hb); clear HB; have HO248 := n0_; have HB := n1_; clear n0_ n1_; (try clear hb); (try clear hb2); (try clear hk); (try clear hi); (try clear ho0); obtain ⟨Ao17, co17, eo17⟩ := Kd.R_slice HO248.out; subst eo17) | (go_at_call 48; (with_reducible refine (slices_Contains_int_int.calls k _ _ t245 a2 true _ ?side1 ?side2 A14.out).mono ?_); (case side1 => exact qq13 HO248.out); (case side2 => exact qq33 HO248.out); rintro e w' ⟨rfl, ⟨nd, rfl⟩⟩) | ((with_reducible refine gate_dst (N := 33) rfl ?_); (try (refine gate_guard (by rfl) ?_; dsimp only)); refine Kd.R_lit (Kd.int .i64) _ 3 ?hg (N := 33) ?hd (xs := ([] : List Int)) (inner := []) (ok := fun _ => True) (okp := fun _ => True) ?hr ?hp (fun _ hk => hk) trivial (Below.refl _ _) (Nat.le_refl _) (by simp) ?_; (case hd => rfl); (case hg => rfl); (case hr => exact qq18); (case hp => exact (Reps.none _ _)); intro v257 w18 ho19 hb hg_ hnew_; clear hg_ hnew_; (first | rw [← Ny256.out] at ho19 | (simp only [Int.reduceToNat] at ho19; rw [← Ny256.out] at ho19)); have n0_ := Aside0.mk (Kd.R_elder' (qq2 HO248.out) (Kd.R_base ho19) hb); have n1_ := Aside0.mk (Kd.R_lower (Kd.R_new' ho19 (Kd.R_lt (qq2 HO248.out))) (below_size qq1)); have n2_ := Aside0.mk (below_step qq1 hb); clear HO248; clear HB; have HO248 := n0_; have HO258 := n1_; have HB := n2_; clear n0_ n1_ n2_; clear hb ho19))
          go_ret2
          exact ⟨_, qq12, qq17 HO258.out, qq1⟩
        · replace c15 := Bool.eq_false_iff.mpr c15
          subst c15
          have H1 : ((some (([wrap64 (a2 + 1)] : List Int) : List Int)).bind fun y259 => (if 0 ≤ a2 then (if a2 < (l1.length : Int) then ((impl_treeWay.f l1 t245 ((rd_T32 l1 a2).f1) ((rd_T32 l1 a2).f0)).bind fun t264 => (if y259.length + t264.length < 17592186044416 then (some ((y259 ++ t264), true)) else (none))) else (none)) else (none))) = some (r1, r2) := by rw [if_neg (show ¬ (false = true) by decide)] at H; exact H
          clear H
          have H := H1
          clear H1
          obtain ⟨y259, hy259⟩ : ∃ y_ : List Int, y_ = (([wrap64 (a2 + 1)] : List Int)) := ⟨_, rfl⟩
          replace H : (if 0 ≤ a2 then (if a2 < (l1.length : Int) then ((impl_treeWay.f l1 t245 ((rd_T32 l1 a2).f1) ((rd_T32 l1 a2).f0)).bind fun t264 => (if y259.length + t264.length < 17592186044416 then (some ((y259 ++ t264), true)) else (none))) else (none)) else (none)) = some (r1, r2) := by first | (rw [hy259]; with_reducible exact H) | (have H2_ := (Option.bind_some _ _).symm.trans H; rw [hy259]; with_reducible exact H2_) | (have H2_ := (Option.bind_some _ _).symm.trans H; with_reducible exact H2_) | with_reducible exact H | (rw [hy259]; exact H) | exact H
          have Ny259 := Aside0.mk hy259
          clear hy259
          by_cases c20 : 0 ≤ a2
          · rw [if_pos c20] at H
            have c20b0 : decide (0 ≤ a2) = true := decide_eq_true c20
            clear c20
            by_cases c21 : a2 < (l1.length : Int)
            · rw [if_pos c21] at H
              have c21b0 : decide (a2 < (l1.length : Int)) = true := decide_eq_true c21
              clear c21
              replace H := Option.bind_eq_some_iff.mp H
              obtain ⟨t264, A220, H⟩ := H
              replace H : (if y259.length + t264.length < 17592186044416 then (some ((y259 ++ t264), true)) else (none)) = some (r1, r2) := H
              have A22 := Aside0.mk A220
              clear A220
              by_cases c23 : y259.length + t264.length < 17592186044416
              · rw [if_pos c23] at H
                have LMc23 := Aside0.mk c23
                clear c23
                obtain ⟨y267, hy267⟩ : ∃ y_ : List Int, y_ = (y259 ++ t264) := ⟨_, rfl⟩
                replace H : (some (y267, true)) = some (r1, r2) := by first | (rw [hy267]; with_reducible exact H) | (have H2_ := (Option.bind_some _ _).symm.trans H; rw [hy267]; with_reducible exact H2_) | (have H2_ := (Option.bind_some _ _).symm.trans H; with_reducible exact H2_) | with_reducible exact H | (rw [hy267]; exact H) | exact H
                have Ny267 := Aside0.mk hy267
                clear hy267
                simp only [Option.some.injEq, Prod.mk.injEq] at H
                obtain ⟨rfl, rfl⟩ := H
                go_enter Try.func30, Try.ntmps30
                try go_wp2_with (first | ((with_reducible refine gate_callee (f := 10) rfl ?_); refine goesL_ (some 13) rfl rfl Try.func10 (by kernel_rfl) rfl #[.int .i64 a0, .slice A1 l1.length c1] rfl qq5 ?_; (with_reducible refine (impl_TreeFirst.calls k a0 _ _ l1 t245 true _ ?side1 ?side2 A4.out).mono ?_); (case side1 => exact qq14 HR1.out); (case side2 => exact HC1.out); rintro e w24 ⟨v247, rfl, ho0, hb⟩; refine ⟨_, rfl, ?_⟩; have n0_ := Aside0.mk (Kd.R_lower ho0 (below_size qq1)); have n1_ := Aside0.mk (below_step qq1 hb); clear HB; have HO248 := n0_; have HB := n1_; clear n0_ n1_; (try clear hb); (try clear hb2); (try clear hk); (try clear hi); (try clear ho0); obtain ⟨Ao25, co25, eo25⟩ := Kd.R_slice HO248.out; subst eo25) | (go_at_call 48; (with_reducible refine (slices_Contains_int_int.calls k _ _ t245 a2 false _ ?side1 ?side2 A14.out).mono ?_); (case side1 => exact qq13 HO248.out); (case side2 => exact qq33 HO248.out); rintro e w' ⟨rfl, ⟨nd, rfl⟩⟩))
                (try (rw [drewN_self w24]; generalize hq_ : World.drewN w24 _ = w24; have n0_ : Aside0 (Kd.R (Kd.int .i64) 3 w24 w.heap.size (fun _ => True) (.slice Ao25 t245.length co25) t245) := ⟨by rw [← hq_]; exact (qq2 HO248.out)⟩; have n1_ : Aside0 (Below w.heap.size w w24) := ⟨by rw [← hq_]; exact qq1⟩; clear HO248 HB hq_; have HO248 := n0_; have HB := n1_; clear n0_ n1_))
                have n0_ := Aside0.mk (Kd.R_drew HO248.out)
                have n1_ := Aside0.mk (below_drew1 HB.out)
                clear HO248
                clear HB
                have HO248 := n0_
                have HB := n1_
                clear n0_ n1_
                have p262 : 0 ≤ (a2 : Int) := of_decide_eq_true qq7
                have q262 : a2 < (l1.length : Int) := of_decide_eq_true qq7
                obtain ⟨ad262, e262, hx262_0, hx262_1, hx262_2, hx262_3⟩ := at_T32 HR1.out a2 p262 q262
                have hw262_3 := hx262_3
                have hw262_2 := hx262_2
                have hw262_1 := hx262_1
                have hw262_0 := hx262_0
                cases e262
                replace hx262_0 := (HB.out.cell (World.block_lt_of_cell? w _ hx262_0)).trans hx262_0
                replace hx262_1 := (HB.out.cell (World.block_lt_of_cell? w _ hx262_1)).trans hx262_1
                replace hx262_2 := (HB.out.cell (World.block_lt_of_cell? w _ hx262_2)).trans hx262_2
                replace hx262_3 := (HB.out.cell (World.block_lt_of_cell? w _ hx262_3)).trans hx262_3
                replace p262 := eq_true p262
                replace q262 := eq_true q262
                have p263 : 0 ≤ (a2 : Int) := of_decide_eq_true qq7
                have q263 : a2 < (l1.length : Int) := of_decide_eq_true qq7
                obtain ⟨ad263, e263, hx263_0, hx263_1, hx263_2, hx263_3⟩ := at_T32 HR1.out a2 p263 q263
                have hw263_3 := hx263_3
                have hw263_2 := hx263_2
                have hw263_1 := hx263_1
                have hw263_0 := hx263_0
                obtain rfl : ad262 = ad263 := (by injection e263)
                replace hx263_0 := (HB.out.cell (World.block_lt_of_cell? w _ hx263_0)).trans hx263_0
                replace hx263_1 := (HB.out.cell (World.block_lt_of_cell? w _ hx263_1)).trans hx263_1
                replace hx263_2 := (HB.out.cell (World.block_lt_of_cell? w _ hx263_2)).trans hx263_2
                replace hx263_3 := (HB.out.cell (World.block_lt_of_cell? w _ hx263_3)).trans hx263_3
                replace p263 := eq_true p263
                replace q263 := eq_true q263
                refine start_ (n := 19) (S := fun w' => w'.cell? (ad262.add ((a2).toNat * 4)) = some (.int .i64 ((rd_T32 l1 a2).f0)) ∧ w'.cell? ⟨(ad262.add ((a2).toNat * 4)).block, (ad262.add ((a2).toNat * 4)).off + 1, none⟩ = some (.int .i64 ((rd_T32 l1 a2).f1)) ∧ w'.cell? ⟨(ad262.add ((a2).toNat * 4)).block, (ad262.add ((a2).toNat * 4)).off + 2, none⟩ = some (.int .i64 ((rd_T32 l1 a2).f2)) ∧ w'.cell? ⟨(ad262.add ((a2).toNat * 4)).block, (ad262.add ((a2).toNat * 4)).off + 3, none⟩ = some (.int .i64 ((rd_T32 l1 a2).f3)) ∧ w'.cell? (ad262.add ((a2).toNat * 4)) = some (.int .i64 ((rd_T32 l1 a2).f0)) ∧ w'.cell? ⟨(ad262.add ((a2).toNat * 4)).block, (ad262.add ((a2).toNat * 4)).off + 1, none⟩ = some (.int .i64 ((rd_T32 l1 a2).f1)) ∧ w'.cell? ⟨(ad262.add ((a2).toNat * 4)).block, (ad262.add ((a2).toNat * 4)).off + 2, none⟩ = some (.int .i64 ((rd_T32 l1 a2).f2)) ∧ w'.cell? ⟨(ad262.add ((a2).toNat * 4)).block, (ad262.add ((a2).toNat * 4)).off + 3, none⟩ = some (.int .i64 ((rd_T32 l1 a2).f3))) (ds := []) #[false, false, false, false, false, false, false, false, false, false, false, false, false, false, false, false, false, false, false] (by kernel_rfl) rfl rfl ⟨((HB.out.cell (World.block_lt_of_cell? w _ hw262_0)).trans hw262_0), ((HB.out.cell (World.block_lt_of_cell? w _ hw262_1)).trans hw262_1), ((HB.out.cell (World.block_lt_of_cell? w _ hw262_2)).trans hw262_2), ((HB.out.cell (World.block_lt_of_cell? w _ hw262_3)).trans hw262_3), ((HB.out.cell (World.block_lt_of_cell? w _ hw263_0)).trans hw263_0), ((HB.out.cell (World.block_lt_of_cell? w _ hw263_1)).trans hw263_1), ((HB.out.cell (World.block_lt_of_cell? w _ hw263_2)).trans hw263_2), ((HB.out.cell (World.block_lt_of_cell? w _ hw263_3)).trans hw263_3)⟩ (fun hHeld => ?_); refine with_tabW impl_LoopOf.tab4 impl_LoopOf.bits4 (fun HT_ HW_ => ?_)
                generalize w24.drew = w26 at HO248 HB hx262_0 hx262_1 hx262_2 hx262_3 hx263_0 hx263_1 hx263_2 hx263_3 hHeld ⊢
                refine pure_ (i := 0) (N := some 34) #[true, false, false, false, false, false, false, false, false, false, false, false, false, false, false, false, false, false, false] rfl rfl (any_of HT_.out (by kernel_rfl)) (fun _ _ _ h => h) (Or.inl ⟨by rfl, pA_⟩) pB_ ?_
                refine pure_ (i := 1) (N := some 35) #[true, true, false, false, false, false, false, false, false, false, false, false, false, false, false, false, false, false, false] rfl rfl (any_of HT_.out (by kernel_rfl)) (fun _ _ _ h => h) (Or.inl ⟨by rfl, pA_⟩) pB_ ?_
                refine pure_ (i := 3) (N := some 37) #[true, true, false, true, false, false, false, false, false, false, false, false, false, false, false, false, false, false, false] rfl rfl (any_of HT_.out (by kernel_rfl)) (fun _ _ _ h => h) (Or.inl ⟨by rfl, pA_⟩) pB_ ?_
                refine pure_ (i := 4) (N := some 38) #[true, true, false, true, true, false, false, false, false, false, false, false, false, false, false, false, false, false, false] rfl rfl (any_of HT_.out (by kernel_rfl)) (fun _ _ _ h => h) (Or.inl ⟨by rfl, pA_⟩) pB_ ?_
                refine pure_ (i := 5) (N := some 39) #[true, true, false, true, true, true, false, false, false, false, false, false, false, false, false, false, false, false, false] rfl rfl (any_of HT_.out (by kernel_rfl)) (fun _ _ _ h => h) (Or.inl ⟨by rfl, pA_⟩) pB_ ?_
                refine pure_ (i := 6) (N := some 40) #[true, true, false, true, true, true, true, false, false, false, false, false, false, false, false, false, false, false, false] rfl rfl (any_of HT_.out (by kernel_rfl)) (fun _ _ _ h => h) (Or.inl ⟨by rfl, pA_⟩) pB_ ?_
                refine pure_ (i := 7) (N := some 41) #[true, true, false, true, true, true, true, true, false, false, false, false, false, false, false, false, false, false, false] rfl rfl (any_of HT_.out (by kernel_rfl)) (fun _ _ _ h => h) (Or.inl ⟨by rfl, pA_⟩) pB_ ?_
                refine pure_ (i := 8) (N := some 42) #[true, true, false, true, true, true, true, true, true, false, false, false, false, false, false, false, false, false, false] rfl rfl (any_of HT_.out (by kernel_rfl)) (fun _ _ _ h => h) (Or.inl ⟨by rfl, pA_⟩) pB_ ?_
                refine pure_ (i := 10) (N := some 44) #[true, true, false, true, true, true, true, true, true, false, true, false, false, false, false, false, false, false, false] rfl rfl (any_of HT_.out (by kernel_rfl)) (fun _ _ _ h => h) (Or.inl ⟨by rfl, pA_⟩) pB_ ?_
                refine pure_ (i := 11) (N := some 45) #[true, true, false, true, true, true, true, true, true, false, true, true, false, false, false, false, false, false, false] rfl rfl (any_of HT_.out (by kernel_rfl)) (fun _ _ _ h => h) (Or.inl ⟨by rfl, pA_⟩) pB_ ?_
                refine pure_ (i := 12) (N := some 46) #[true, true, false, true, true, true, true, true, true, false, true, true, true, false, false, false, false, false, false] rfl rfl (any_of HT_.out (by kernel_rfl)) (fun _ _ _ h => h) (Or.inl ⟨by rfl, pA_⟩) pB_ ?_
                refine pure_ (i := 13) (N := some 47) #[true, true, false, true, true, true, true, true, true, false, true, true, true, true, false, false, false, false, false] rfl rfl (any_of HT_.out (by kernel_rfl)) (fun _ _ _ h => h) (Or.inl ⟨by rfl, pA_⟩) pB_ ?_
                refine take_ (i := 9) (N := some 43) (v := ?_) (a' := ?_) #[true, true, false, true, true, true, true, true, true, true, true, true, true, true, false, false, false, false, false] rfl rfl (take_ofW HT_.out HW_.out (by kernel_rfl)) (fun _ _ _ h => h) (Or.inl ⟨by rfl, ?_⟩) hHeld ?_ ?_
                rotate_left
                · rintro w' ⟨s0, s1, s2, s3, s4, s5, s6, s7⟩
                  go_simp
                  with_reducible rfl
                rotate_left
                · simp only [Act.put, List.setIfInBounds_toArray, List.set_cons_zero, List.set_cons_succ, i64_w, i32_w]
                  rfl
                refine take_ (i := 14) (N := some 48) (v := ?_) (a' := ?_) #[true, true, false, true, true, true, true, true, true, true, true, true, true, true, true, false, false, false, false] rfl rfl (take_ofW HT_.out HW_.out (by kernel_rfl)) (fun _ _ _ h => h) (Or.inl ⟨by rfl, ?_⟩) hHeld ?_ ?_
                rotate_left
                · rintro w' ⟨s0, s1, s2, s3, s4, s5, s6, s7⟩
                  go_simp
                  with_reducible rfl
                rotate_left
                · simp only [Act.put, List.setIfInBounds_toArray, List.set_cons_zero, List.set_cons_succ, i64_w, i32_w]
                  rfl
                refine join_ (σ := Value × Value) 3 #[true, true, true, true, true, true, true, true, true, true, true, true, true, true, true, true, false, false, false] (fun s_ => [(36, s_.1), (49, s_.2)]) (fun s_ w' => (w'.cell? (ad262.add ((a2).toNat * 4)) = some (.int .i64 ((rd_T32 l1 a2).f0)) ∧ w'.cell? ⟨(ad262.add ((a2).toNat * 4)).block, (ad262.add ((a2).toNat * 4)).off + 1, none⟩ = some (.int .i64 ((rd_T32 l1 a2).f1)) ∧ w'.cell? ⟨(ad262.add ((a2).toNat * 4)).block, (ad262.add ((a2).toNat * 4)).off + 2, none⟩ = some (.int .i64 ((rd_T32 l1 a2).f2)) ∧ w'.cell? ⟨(ad262.add ((a2).toNat * 4)).block, (ad262.add ((a2).toNat * 4)).off + 3, none⟩ = some (.int .i64 ((rd_T32 l1 a2).f3)) ∧ w'.cell? (ad262.add ((a2).toNat * 4)) = some (.int .i64 ((rd_T32 l1 a2).f0)) ∧ w'.cell? ⟨(ad262.add ((a2).toNat * 4)).block, (ad262.add ((a2).toNat * 4)).off + 1, none⟩ = some (.int .i64 ((rd_T32 l1 a2).f1)) ∧ w'.cell? ⟨(ad262.add ((a2).toNat * 4)).block, (ad262.add ((a2).toNat * 4)).off + 2, none⟩ = some (.int .i64 ((rd_T32 l1 a2).f2)) ∧ w'.cell? ⟨(ad262.add ((a2).toNat * 4)).block, (ad262.add ((a2).toNat * 4)).off + 3, none⟩ = some (.int .i64 ((rd_T32 l1 a2).f3))) ∧ (Kd.R (Kd.int .i64) 3 w' w.heap.size (fun k_ => some k_ ≠ (s_.1 : Value).ownBlock ∧ some k_ ≠ (s_.2 : Value).ownBlock) (.slice Ao25 t245.length co25) t245) ∧ (Kd.R (Kd.int .i64) 3 w' w.heap.size (fun k_ => some k_ ≠ (.slice Ao25 t245.length co25 : Value).ownBlock ∧ some k_ ≠ (s_.2 : Value).ownBlock) s_.1 y259) ∧ (Kd.R (Kd.int .i64) 3 w' w.heap.size (fun k_ => some k_ ≠ (.slice Ao25 t245.length co25 : Value).ownBlock ∧ some k_ ≠ (s_.1 : Value).ownBlock) s_.2 t264) ∧ (Below w.heap.size w w')) ?_ ?_
                rotate_left
                · intro hCont
                  refine two_ (i := 2) (j := 15) (Ni := some 36) (Nj := some 49) #[true, true, true, true, true, true, true, true, true, true, true, true, true, true, true, false, false, false, false] #[true, true, false, true, true, true, true, true, true, true, true, true, true, true, true, true, false, false, false] rfl rfl rfl rfl (two_of HT_.out (by kernel_rfl)) (by decide) (by decide) (fun K hK => ?_) (fun K hK => ?_)
                  · skip
                    refine Kd.R_lit_step (Kd.int .i64) _ 3 ?hg (N := 36) ?hd (xs := ([wrap64 (a2 + 1)] : List Int)) (inner := [.int .i64 (wrap64 (a2 + 1))]) (ok := fun _ => True) (okp := fun _ => True) ?hr ?hp (fun _ hk => hk) trivial (Below.refl _ _) (Nat.le_refl _) (by simp) ?_; (case hd => rfl); (case hg => rfl); (case hr => exact qq18); (case hp => exact qq48)
                    intro v260 w27 ho28 hb hg_ hnew_
                    clear hg_ hnew_
                    (first | rw [← Ny259.out] at ho28 | (simp only [Int.reduceToNat] at ho28; rw [← Ny259.out] at ho28))
                    have n0_ := Aside0.mk (Kd.R_elder' (qq2 HO248.out) (Kd.R_base ho28) hb)
                    have n1_ := Aside0.mk (Kd.R_lower (Kd.R_new' ho28 (Kd.R_lt (qq2 HO248.out))) (below_size qq1))
                    have n2_ := Aside0.mk (below_step qq1 hb)
                    clear HO248
                    clear HB
                    have HO248 := n0_
                    have HO261 := n1_
                    have HB := n2_
                    clear n0_ n1_ n2_
                    clear hb ho28
                    refine hK.out _ _ ⟨((HB.out.cell (World.block_lt_of_cell? w _ hw262_0)).trans hw262_0), ((HB.out.cell (World.block_lt_of_cell? w _ hw262_1)).trans hw262_1), ((HB.out.cell (World.block_lt_of_cell? w _ hw262_2)).trans hw262_2), ((HB.out.cell (World.block_lt_of_cell? w _ hw262_3)).trans hw262_3), ((HB.out.cell (World.block_lt_of_cell? w _ hw263_0)).trans hw263_0), ((HB.out.cell (World.block_lt_of_cell? w _ hw263_1)).trans hw263_1), ((HB.out.cell (World.block_lt_of_cell? w _ hw263_2)).trans hw263_2), ((HB.out.cell (World.block_lt_of_cell? w _ hw263_3)).trans hw263_3)⟩ (fun hHeld => ?_)
                    clear hK K
                    refine norm_ (a' := ?_) ?_ ?_
                    rotate_left
                    · show Act.put _ (some 36) _ = _
                      simp only [Act.put, List.setIfInBounds_toArray, List.set_cons_zero, List.set_cons_succ, i64_w, i32_w]
                      rfl
                    refine one_ (i := 15) (N := some 49) #[true, true, true, true, true, true, true, true, true, true, true, true, true, true, true, true, false, false, false] rfl rfl (one_of HT_.out (by kernel_rfl)) (by decide) (fun K hK => ?_)
                    refine goes_ Try.func49 (by kernel_rfl) rfl #[.slice (some ad262) l1.length c1, .slice Ao25 t245.length co25, .int .i64 ((rd_T32 l1 a2).f1), .int .i64 ((rd_T32 l1 a2).f0)] (by rfl) rfl rfl qq5 ?_
                    with_reducible refine (impl_treeWay.calls _ _ l1 _ _ t245 ((rd_T32 l1 a2).f1) ((rd_T32 l1 a2).f0) t264 _ ?side1 ?side2 ?side3 ?side4 A22.out).mono ?_
                    (case side1 => exact qq38)
                    (case side2 => exact HC1.out)
                    (case side3 => exact qq13 HO248.out)
                    (case side4 => exact qq33 HO248.out)
                    rintro e w29 ⟨v265, rfl, ho0, hb⟩
                    refine ⟨_, rfl, ?_⟩
                    have n0_ := Aside0.mk (Kd.R_elder' (qq2 HO248.out) (Kd.R_base ho0) hb)
                    have n1_ := Aside0.mk (Kd.R_elder' (qq2 HO261.out) (Kd.R_base ho0) hb)
                    have n2_ := Aside0.mk (Kd.R_lower (Kd.R_new' (Kd.R_new' ho0 (Kd.R_lt (qq2 HO248.out))) (Kd.R_lt (qq2 HO261.out))) (below_size qq1))
                    have n3_ := Aside0.mk (below_step qq1 hb)
                    clear HO248
                    clear HO261
                    clear HB
                    have HO248 := n0_
                    have HO261 := n1_
                    have HO266 := n2_
                    have HB := n3_
                    clear n0_ n1_ n2_ n3_
                    (try clear hb)
                    (try clear hb2)
                    (try clear hk)
                    (try clear hi)
                    (try clear ho0)
                    refine hK.out _ _ ⟨((HB.out.cell (World.block_lt_of_cell? w _ hw262_0)).trans hw262_0), ((HB.out.cell (World.block_lt_of_cell? w _ hw262_1)).trans hw262_1), ((HB.out.cell (World.block_lt_of_cell? w _ hw262_2)).trans hw262_2), ((HB.out.cell (World.block_lt_of_cell? w _ hw262_3)).trans hw262_3), ((HB.out.cell (World.block_lt_of_cell? w _ hw263_0)).trans hw263_0), ((HB.out.cell (World.block_lt_of_cell? w _ hw263_1)).trans hw263_1), ((HB.out.cell (World.block_lt_of_cell? w _ hw263_2)).trans hw263_2), ((HB.out.cell (World.block_lt_of_cell? w _ hw263_3)).trans hw263_3)⟩ (fun hHeld => ?_)
                    clear hK K
                    refine norm_ (a' := ?_) ?_ ?_
                    rotate_left
                    · show Act.put _ (some 49) _ = _
                      simp only [Act.put, List.setIfInBounds_toArray, List.set_cons_zero, List.set_cons_succ, i64_w, i32_w]
                      rfl
                    exact norm_ qq50 (hCont (v260, v265) _ ⟨hHeld, (qq20 HO248.out), (qq20 HO261.out), (qq20 HO266.out), qq1⟩)
                  · skip
                    refine goes_ Try.func49 (by kernel_rfl) rfl #[.slice (some ad262) l1.length c1, .slice Ao25 t245.length co25, .int .i64 ((rd_T32 l1 a2).f1), .int .i64 ((rd_T32 l1 a2).f0)] (by rfl) rfl rfl qq5 ?_
                    with_reducible refine (impl_treeWay.calls _ _ l1 _ _ t245 ((rd_T32 l1 a2).f1) ((rd_T32 l1 a2).f0) t264 _ ?side1 ?side2 ?side3 ?side4 A22.out).mono ?_
                    (case side1 => exact qq38)
                    (case side2 => exact HC1.out)
                    (case side3 => exact qq13 HO248.out)
                    (case side4 => exact qq33 HO248.out)
                    rintro e w27 ⟨v265, rfl, ho0, hb⟩
                    refine ⟨_, rfl, ?_⟩
                    have n0_ := Aside0.mk (Kd.R_elder' (qq2 HO248.out) (Kd.R_base ho0) hb)
                    have n1_ := Aside0.mk (Kd.R_lower (Kd.R_new' ho0 (Kd.R_lt (qq2 HO248.out))) (below_size qq1))
                    have n2_ := Aside0.mk (below_step qq1 hb)
                    clear HO248
                    clear HB
                    have HO248 := n0_
                    have HO266 := n1_
                    have HB := n2_
                    clear n0_ n1_ n2_
                    (try clear hb)
                    (try clear hb2)
                    (try clear hk)
                    (try clear hi)
                    (try clear ho0)
                    refine hK.out _ _ ⟨((HB.out.cell (World.block_lt_of_cell? w _ hw262_0)).trans hw262_0), ((HB.out.cell (World.block_lt_of_cell? w _ hw262_1)).trans hw262_1), ((HB.out.cell (World.block_lt_of_cell? w _ hw262_2)).trans hw262_2), ((HB.out.cell (World.block_lt_of_cell? w _ hw262_3)).trans hw262_3), ((HB.out.cell (World.block_lt_of_cell? w _ hw263_0)).trans hw263_0), ((HB.out.cell (World.block_lt_of_cell? w _ hw263_1)).trans hw263_1), ((HB.out.cell (World.block_lt_of_cell? w _ hw263_2)).trans hw263_2), ((HB.out.cell (World.block_lt_of_cell? w _ hw263_3)).trans hw263_3)⟩ (fun hHeld => ?_)
                    clear hK K
                    refine norm_ (a' := ?_) ?_ ?_
                    rotate_left
                    · show Act.put _ (some 49) _ = _
                      simp only [Act.put, List.setIfInBounds_toArray, List.set_cons_zero, List.set_cons_succ, i64_w, i32_w]
                      rfl
                    refine one_ (i := 2) (N := some 36) #[true, true, true, true, true, true, true, true, true, true, true, true, true, true, true, true, false, false, false] rfl rfl (one_of HT_.out (by kernel_rfl)) (by decide) (fun K hK => ?_)
                    refine Kd.R_lit_step (Kd.int .i64) _ 3 ?hg (N := 36) ?hd (xs := ([wrap64 (a2 + 1)] : List Int)) (inner := [.int .i64 (wrap64 (a2 + 1))]) (ok := fun _ => True) (okp := fun _ => True) ?hr ?hp (fun _ hk => hk) trivial (Below.refl _ _) (Nat.le_refl _) (by simp) ?_; (case hd => rfl); (case hg => rfl); (case hr => exact qq18); (case hp => exact qq48)
                    intro v260 w28 ho29 hb hg_ hnew_
                    clear hg_ hnew_
                    (first | rw [← Ny259.out] at ho29 | (simp only [Int.reduceToNat] at ho29; rw [← Ny259.out] at ho29))
                    have n0_ := Aside0.mk (Kd.R_elder' (qq2 HO248.out) (Kd.R_base ho29) hb)
                    have n1_ := Aside0.mk (Kd.R_elder' (qq2 HO266.out) (Kd.R_base ho29) hb)
                    have n2_ := Aside0.mk (Kd.R_lower (Kd.R_new' (Kd.R_new' ho29 (Kd.R_lt (qq2 HO248.out))) (Kd.R_lt (qq2 HO266.out))) (below_size qq1))
                    have n3_ := Aside0.mk (below_step qq1 hb)
                    clear HO248
                    clear HO266
                    clear HB
                    have HO248 := n0_
                    have HO266 := n1_
                    have HO261 := n2_
                    have HB := n3_
                    clear n0_ n1_ n2_ n3_
                    clear hb ho29
                    refine hK.out _ _ ⟨((HB.out.cell (World.block_lt_of_cell? w _ hw262_0)).trans hw262_0), ((HB.out.cell (World.block_lt_of_cell? w _ hw262_1)).trans hw262_1), ((HB.out.cell (World.block_lt_of_cell? w _ hw262_2)).trans hw262_2), ((HB.out.cell (World.block_lt_of_cell? w _ hw262_3)).trans hw262_3), ((HB.out.cell (World.block_lt_of_cell? w _ hw263_0)).trans hw263_0), ((HB.out.cell (World.block_lt_of_cell? w _ hw263_1)).trans hw263_1), ((HB.out.cell (World.block_lt_of_cell? w _ hw263_2)).trans hw263_2), ((HB.out.cell (World.block_lt_of_cell? w _ hw263_3)).trans hw263_3)⟩ (fun hHeld => ?_)
                    clear hK K
                    refine norm_ (a' := ?_) ?_ ?_
                    rotate_left
                    · show Act.put _ (some 36) _ = _
                      simp only [Act.put, List.setIfInBounds_toArray, List.set_cons_zero, List.set_cons_succ, i64_w, i32_w]
                      rfl
                    exact norm_ qq50 (hCont (v260, v265) _ ⟨hHeld, (by (with_reducible repeat (first | apply Kd.R_alloc | apply Kd.R_drewN | apply Kd.R_drew)); exact Kd.R_mono HO248.out (fun _ hk => ⟨hk.2, hk.1.2⟩)), (qq20 HO261.out), (qq20 HO266.out), qq1⟩)
                rintro ⟨v260, v265⟩ w30 ⟨hS_, h0_, h1_, h2_, h3_⟩
                have n0_ : Aside0 (Kd.R (Kd.int .i64) 3 w30 w.heap.size (fun k_ => some k_ ≠ (v260 : Value).ownBlock ∧ some k_ ≠ (v265 : Value).ownBlock) (.slice Ao25 t245.length co25) t245) := ⟨h0_⟩
                have n1_ : Aside0 (Kd.R (Kd.int .i64) 3 w30 w.heap.size (fun k_ => some k_ ≠ (.slice Ao25 t245.length co25 : Value).ownBlock ∧ some k_ ≠ (v265 : Value).ownBlock) v260 y259) := ⟨h1_⟩
                have n2_ : Aside0 (Kd.R (Kd.int .i64) 3 w30 w.heap.size (fun k_ => some k_ ≠ (.slice Ao25 t245.length co25 : Value).ownBlock ∧ some k_ ≠ (v260 : Value).ownBlock) v265 t264) := ⟨h2_⟩
                have n3_ : Aside0 (Below w.heap.size w w30) := ⟨h3_⟩
                clear HO248
                clear HB
                clear h0_ h1_ h2_ h3_
                have HO248 := n0_
                have HO261 := n1_
                have HO266 := n2_
                have HB := n3_
                clear n0_ n1_ n2_ n3_
                have hHeld : w30.cell? (ad262.add ((a2).toNat * 4)) = some (.int .i64 ((rd_T32 l1 a2).f0)) ∧ w30.cell? ⟨(ad262.add ((a2).toNat * 4)).block, (ad262.add ((a2).toNat * 4)).off + 1, none⟩ = some (.int .i64 ((rd_T32 l1 a2).f1)) ∧ w30.cell? ⟨(ad262.add ((a2).toNat * 4)).block, (ad262.add ((a2).toNat * 4)).off + 2, none⟩ = some (.int .i64 ((rd_T32 l1 a2).f2)) ∧ w30.cell? ⟨(ad262.add ((a2).toNat * 4)).block, (ad262.add ((a2).toNat * 4)).off + 3, none⟩ = some (.int .i64 ((rd_T32 l1 a2).f3)) ∧ w30.cell? (ad262.add ((a2).toNat * 4)) = some (.int .i64 ((rd_T32 l1 a2).f0)) ∧ w30.cell? ⟨(ad262.add ((a2).toNat * 4)).block, (ad262.add ((a2).toNat * 4)).off + 1, none⟩ = some (.int .i64 ((rd_T32 l1 a2).f1)) ∧ w30.cell? ⟨(ad262.add ((a2).toNat * 4)).block, (ad262.add ((a2).toNat * 4)).off + 2, none⟩ = some (.int .i64 ((rd_T32 l1 a2).f2)) ∧ w30.cell? ⟨(ad262.add ((a2).toNat * 4)).block, (ad262.add ((a2).toNat * 4)).off + 3, none⟩ = some (.int .i64 ((rd_T32 l1 a2).f3)) := hS_
                obtain ⟨Ao32, co32, eo32⟩ := Kd.R_slice HO266.out
                (first | subst eo32 | (injection eo32 with f1_ f2_ f3_; have f4_ := f1_.symm; have f5_ := f3_.symm; clear f1_ f2_ f3_; subst f4_; subst f5_))
                refine norm_ (a' := ?_) ?_ ?_
                rotate_left
                · simp only [putAll, Act.put, List.setIfInBounds_toArray, List.set_cons_zero, List.set_cons_succ]
                  rfl
                refine one_ (i := 16) (N := some 50) #[true, true, true, true, true, true, true, true, true, true, true, true, true, true, true, true, true, false, false] rfl rfl (one_of HT_.out (by kernel_rfl)) (by decide) (fun K hK => ?_)
                refine Kd.R_append_rows_step (Kd.int .i64) (w0 := w) w.heap.size (by rfl) (.tmp 36) (.tmp 49) 27 3 (.int .i64 0) 8 rfl Try.underlying27 info3 rfl (by decide) (by omega) v260 y259 t264 _ _ _ (fun k_ => some k_ ≠ (.slice Ao25 t245.length co25 : Value).ownBlock ∧ some k_ ≠ (.slice Ao32 t264.length co32 : Value).ownBlock) (fun _ => False) rfl rfl ?aO ?aR (fun _ _ h => h) (fun _ h => h.elim) ?aF ?aB ?aS ?aL ?_
                (case aR => exact qq13 HO266.out)
                (case aB => exact qq1)
                (case aF => exact (fun k_ hk => ⟨Kd.fresh' (Kd.R_lt (qq2 HO248.out)) k_ hk, Kd.fresh' (Kd.R_lt (qq2 HO266.out)) k_ hk⟩))
                (case aO => exact (qq2 HO261.out))
                (case aS => exact (below_size qq1))
                (case aL => have := LMc23.out; omega)
                intro v268 w31 ho hb hg hat
                rw [← Ny267.out] at ho
                have n0_ := Aside0.mk (Kd.R_after (ok := (fun k_ => some k_ ≠ (.slice Ao32 t264.length co32 : Value).ownBlock)) (by (with_reducible repeat (first | apply Kd.R_alloc | apply Kd.R_drewN | apply Kd.R_drew)); exact Kd.R_mono HO248.out (fun _ hk => ⟨hk.2, hk.1⟩)) hg hat)
                have n1_ := Aside0.mk (Kd.R_after (ok := (fun k_ => some k_ ≠ (.slice Ao25 t245.length co25 : Value).ownBlock)) (qq2 HO266.out) hg hat)
                have n2_ := Aside0.mk (hb)
                have n3_ := Aside0.mk (ho)
                clear HO248
                clear HO266
                clear HB
                clear HO261
                have HO248 := n0_
                have HO266 := n1_
                have HB := n2_
                have HO269 := n3_
                clear n0_ n1_ n2_ n3_
                clear ho hb hg hat
                refine hK.out _ _ ⟨((HB.out.cell (World.block_lt_of_cell? w _ hw262_0)).trans hw262_0), ((HB.out.cell (World.block_lt_of_cell? w _ hw262_1)).trans hw262_1), ((HB.out.cell (World.block_lt_of_cell? w _ hw262_2)).trans hw262_2), ((HB.out.cell (World.block_lt_of_cell? w _ hw262_3)).trans hw262_3), ((HB.out.cell (World.block_lt_of_cell? w _ hw263_0)).trans hw263_0), ((HB.out.cell (World.block_lt_of_cell? w _ hw263_1)).trans hw263_1), ((HB.out.cell (World.block_lt_of_cell? w _ hw263_2)).trans hw263_2), ((HB.out.cell (World.block_lt_of_cell? w _ hw263_3)).trans hw263_3)⟩ (fun hHeld => ?_)
                clear hK K
                refine norm_ (a' := ?_) ?_ ?_
                rotate_left
                · show Act.put _ (some 50) _ = _
                  simp only [Act.put, List.setIfInBounds_toArray, List.set_cons_zero, List.set_cons_succ, i64_w, i32_w]
                  rfl
                refine pure_ (i := 17) (N := some 6) #[true, true, true, true, true, true, true, true, true, true, true, true, true, true, true, true, true, true, false] rfl rfl (any_of HT_.out (by kernel_rfl)) (fun _ _ _ h => h) (Or.inl ⟨by rfl, pA_⟩) pB_ ?_
                refine pure_ (i := 18) (N := some 7) #[true, true, true, true, true, true, true, true, true, true, true, true, true, true, true, true, true, true, true] rfl rfl (any_of HT_.out (by kernel_rfl)) (fun _ _ _ h => h) (Or.inl ⟨by rfl, pA_⟩) pB_ ?_
                refine done_ (done_of HT_.out (by kernel_rfl)) ?_
                try go_wp2
                go_ret2
                exact ⟨_, qq12, qq17 HO269.out, qq1⟩
              · rw [if_neg c23] at H
                exact absurd H (by simp)
            · rw [if_neg c21] at H
              exact absurd H (by simp)
          · rw [if_neg c20] at H
            exact absurd H (by simp)
  · replace c5 := Bool.eq_false_iff.mpr c5
    subst c5
    have H1 : (some ((([] : List Int)), false)) = some (r1, r2) := by rw [if_neg (show ¬ (false = true) by decide)] at H; exact H
    clear H
    have H := H1
    clear H1
    obtain ⟨y270, hy270⟩ : ∃ y_ : List Int, y_ = (([] : List Int)) := ⟨_, rfl⟩
    replace H : (some (y270, false)) = some (r1, r2) := by first | (rw [hy270]; with_reducible exact H) | (have H2_ := (Option.bind_some _ _).symm.trans H; rw [hy270]; with_reducible exact H2_) | (have H2_ := (Option.bind_some _ _).symm.trans H; with_reducible exact H2_) | with_reducible exact H | (rw [hy270]; exact H) | exact H
    have Ny270 := Aside0.mk hy270
    clear hy270
    simp only [Option.some.injEq, Prod.mk.injEq] at H
    obtain ⟨rfl, rfl⟩ := H
    go_enter Try.func30, Try.ntmps30
    go_wp2_with (first | ((with_reducible refine gate_callee (f := 10) rfl ?_); refine goesL_ (some 13) rfl rfl Try.func10 (by kernel_rfl) rfl #[.int .i64 a0, .slice A1 l1.length c1] rfl qq5 ?_; (with_reducible refine (impl_TreeFirst.calls k a0 _ _ l1 t245 false _ ?side1 ?side2 A4.out).mono ?_); (case side1 => exact qq14 HR1.out); (case side2 => exact HC1.out); rintro e w33 ⟨v247, rfl, ho0, hb⟩; refine ⟨_, rfl, ?_⟩; have n0_ := Aside0.mk (Kd.R_lower ho0 (below_size qq1)); have n1_ := Aside0.mk (below_step qq1 hb); clear HB; have HO248 := n0_; have HB := n1_; clear n0_ n1_; (try clear hb); (try clear hb2); (try clear hk); (try clear hi); (try clear ho0)) | ((with_reducible refine gate_dst (N := 33) rfl ?_); (try (refine gate_guard (by rfl) ?_; dsimp only)); refine Kd.R_lit (Kd.int .i64) _ 3 ?hg (N := 33) ?hd (xs := ([] : List Int)) (inner := []) (ok := fun _ => True) (okp := fun _ => True) ?hr ?hp (fun _ hk => hk) trivial (Below.refl _ _) (Nat.le_refl _) (by simp) ?_; (case hd => rfl); (case hg => rfl); (case hr => exact qq18); (case hp => exact (Reps.none _ _)); intro v271 w34 ho35 hb hg_ hnew_; clear hg_ hnew_; (first | rw [← Ny270.out] at ho35 | (simp only [Int.reduceToNat] at ho35; rw [← Ny270.out] at ho35)); have n0_ := Aside0.mk (Kd.R_elder' (qq2 HO248.out) (Kd.R_base ho35) hb); have n1_ := Aside0.mk (Kd.R_lower (Kd.R_new' ho35 (Kd.R_lt (qq2 HO248.out))) (below_size qq1)); have n2_ := Aside0.mk (below_step qq1 hb); clear HO248; clear HB; have HO248 := n0_; have HO272 := n1_; have HB := n2_; clear n0_ n1_ n2_; clear hb ho35))
    go_ret2
    exact ⟨_, qq12, qq17 HO272.out, qq1⟩

end Go.Proofs.Ytmcfhmflncghiaa.Q
namespace Go.Proofs.Ytmcfhmflncghiaa.Q
open Go.RowKit Go.Proofs.YtmcfhmflncghiaaW.PrintWords Go.Proofs.YtmcfhmflncghiaaW.PrintLast Go.Proofs.YtmcfhmflncghiaaW.PrintMore
attribute [local go_sem] max2_int min2_int max_two min_two max_three min_three max_four min_four
set_option linter.unusedVariables false
set_option linter.unusedSimpArgs false

/-! ### impl_numberRun: function 51 -/
def impl_numberRun.j0 : Nat → List (S32) → Int → Bool → Option (Int × Int × Int × Int × Bool)
  | 0, _, _, _ => none
  | k + 1, x0, x1, x21 => if x21 = true then (some (0, 0, 0, 0, false)) else (if x1 > 0 then (if 0 ≤ (wrap64 (x1 - 1)) then (if (wrap64 (x1 - 1)) < (x0.length : Int) then (some ((rd_T32 x0 (wrap64 (x1 - 1))).f0, (rd_T32 x0 (wrap64 (x1 - 1))).f1, (rd_T32 x0 (wrap64 (x1 - 1))).f2, (rd_T32 x0 (wrap64 (x1 - 1))).f3, true)) else (none)) else (none)) else (if 0 ≤ (wrap64 ((wrap64 (-x1)) - 1)) then (if (wrap64 ((wrap64 (-x1)) - 1)) < (x0.length : Int) then (some ((rd_T32 x0 (wrap64 ((wrap64 (-x1)) - 1))).f1, (rd_T32 x0 (wrap64 ((wrap64 (-x1)) - 1))).f0, wrap64 (-((rd_T32 x0 (wrap64 ((wrap64 (-x1)) - 1))).f2)), (rd_T32 x0 (wrap64 ((wrap64 (-x1)) - 1))).f3, true)) else (none)) else (none)))
def impl_numberRun.f (k : Nat) (l0 : List (S32)) (a1 : Int) : Option (Int × Int × Int × Int × Bool) := if a1 = 0 then (impl_numberRun.j0 k l0 a1 true) else (if a1 < (wrap64 (-(l0.length : Int))) then (impl_numberRun.j0 k l0 a1 true) else (impl_numberRun.j0 k l0 a1 (decide (a1 > (l0.length : Int)))))
set_option maxHeartbeats 8000000 in
set_option maxRecDepth 100000 in
theorem impl_numberRun.calls (k : Nat) (A0 : Option Addr) (c0 : Nat) (l0 : List (S32)) (a1 : Int) (r1 : Int) (r2 : Int) (r3 : Int) (r4 : Int) (r5 : Bool) (w : World) (hr0 : Kd.C k32 w A0 l0.length l0) (hc0 : l0.length ≤ c0) (h : impl_numberRun.f k l0 a1 = some (r1, r2, r3, r4, r5)) :
    Calls Try.prog 51 #[.slice A0 l0.length c0, .int .i64 a1] w fun e w' => e = .returned (.tuple #[.agg #[.int .i64 r1, .int .i64 r2, .int .i64 r3, .int .i64 r4], .bool r5]) ∧ Below w.heap.size w w' := by
  have hu32 := Try.underlying32
  have HR0 := Aside0.mk hr0
  have HC0 := Aside0.mk hc0
  clear hr0 hc0
  have HB := Aside0.mk (Below.refl w.heap.size w)
  have H : (if a1 = 0 then (impl_numberRun.j0 k l0 a1 true) else (if a1 < (wrap64 (-(l0.length : Int))) then (impl_numberRun.j0 k l0 a1 true) else (impl_numberRun.j0 k l0 a1 (decide (a1 > (l0.length : Int)))))) = some (r1, r2, r3, r4, r5) := h
  clear h
  have HC3 := Aside0.mk H
  clear H
  go_enter Try.func51, Try.ntmps51
  go_upto_region 1 with (first | ((with_reducible refine gate_dst (N := 4) rfl ?_); (try (refine gate_guard (by rfl) ?_; dsimp only)); refine box_event ?hg (N := 4) ?hd (cs := #[.int .i64 0, .int .i64 0, .int .i64 0, .int .i64 0]) (t := 32) ?hr ?_; (case hd => rfl); (case hg => rfl); (case hr => exact qq18); intro gb273 hg w4 hbox hb; have n0_ := Aside0.mk (below_step qq1 hb); have n1_ := Aside0.mk (hbox); have n2_ := Aside0.mk ((qq29 : w.heap.size ≤ gb273)); have n3_ := Aside0.mk ((qq29 : w.heap.size ≤ gb273)); clear HB; have HB := n0_; have BK273 := n1_; have GW273 := n2_; have GE273 := n3_; clear n0_ n1_ n2_ n3_; clear hb hbox hg))
  (try simp only [Act.put, List.setIfInBounds_toArray, List.set_cons_zero, List.set_cons_succ])
  go_cut [21] (fun v21 wc => ∃ (kq : Nat) (x21_2 : Bool), v21 = .bool x21_2 ∧ Aside0 (impl_numberRun.j0 kq l0 a1 x21_2 = some (r1, r2, r3, r4, r5)) ∧ Aside0 (kq ≤ k) ∧ Aside0 (wc.heap[gb273]? = some (.cells #[.int .i64 0, .int .i64 0, .int .i64 0, .int .i64 0] 32 (0, 0))) ∧ Aside0 (Below w.heap.size w wc))
  case first =>
    have H := HC3.out
    clear HC3
    by_cases c5 : a1 = 0
    · rw [if_pos c5] at H
      have c5b0 : (a1 == 0) = true := beq_iff_eq.mpr c5
      have c5b1 : (a1 != 0) = false := bne_eq_false_iff_eq.mpr c5
      clear c5
      (first | rw [c5b0] | (simp only [i64_w, i32_w]; rw [c5b0]) | skip)
      have H' := Aside0.mk H
      clear H
      go_wp2
      go_meet
      case rel => exact ⟨_, (true), qq11, H', ⟨qq24⟩, ⟨qq23 BK273.out⟩, ⟨qq3 HB.out GE273.out⟩⟩
    · rw [if_neg c5] at H
      have c5b0 : (a1 == 0) = false := beq_eq_false_iff_ne.mpr c5
      have c5b1 : (a1 != 0) = true := bne_iff_ne.mpr c5
      (first | rw [c5b0] | (simp only [i64_w, i32_w]; rw [c5b0]) | skip)
      by_cases c6 : a1 < (wrap64 (-(l0.length : Int)))
      · rw [if_pos c6] at H
        have c6b0 : decide (a1 < (wrap64 (-(l0.length : Int)))) = true := decide_eq_true c6
        clear c6
        have H' := Aside0.mk H
        clear H
        go_wp2
        go_meet
        case rel => exact ⟨_, (true), qq11, H', ⟨qq24⟩, ⟨qq23 BK273.out⟩, ⟨qq3 HB.out GE273.out⟩⟩
      · rw [if_neg c6] at H
        have c6b0 : decide (a1 < (wrap64 (-(l0.length : Int)))) = false := decide_eq_false c6
        clear c6
        have H' := Aside0.mk H
        clear H
        go_wp2
        go_meet
        case rel => exact ⟨_, (decide (a1 > (l0.length : Int))), qq11, H', ⟨qq24⟩, ⟨qq23 BK273.out⟩, ⟨qq3 HB.out GE273.out⟩⟩
  case rest =>
    clear HC3
    try clear p2
    try clear c5
    try clear c5b0
    try clear c5b1
    try clear c6
    try clear c6b0
    try clear p6
    obtain ⟨kq, x21_2, rfl, HA, HJ2, BK273, HB⟩ := hcut
    cases kq with
    | zero => exact absurd HA.out (by simp [impl_numberRun.j0])
    | succ kj2 =>
      have H := HA.out
      clear HA
      simp only [impl_numberRun.j0] at H
      by_cases c7 : x21_2 = true
      · subst c7
        have H1 : (some (0, 0, 0, 0, false)) = some (r1, r2, r3, r4, r5) := by rw [if_pos rfl] at H; exact H
        clear H
        have H := H1
        clear H1
        simp only [Option.some.injEq, Prod.mk.injEq] at H
        obtain ⟨rfl, rfl, rfl, rfl, rfl⟩ := H
        have hcz8_0 : wc.cell? ⟨gb273, 0, none⟩ = some (.int .i64 0) := (blk_cell BK273.out 0).trans rfl
        have hcz8_1 : wc.cell? ⟨gb273, 1, none⟩ = some (.int .i64 0) := (blk_cell BK273.out 1).trans rfl
        have hcz8_2 : wc.cell? ⟨gb273, 2, none⟩ = some (.int .i64 0) := (blk_cell BK273.out 2).trans rfl
        have hcz8_3 : wc.cell? ⟨gb273, 3, none⟩ = some (.int .i64 0) := (blk_cell BK273.out 3).trans rfl
        have hfz8_0 := blk_frozen BK273.out 0
        have hfz8_1 := blk_frozen BK273.out 1
        have hfz8_2 := blk_frozen BK273.out 2
        have hfz8_3 := blk_frozen BK273.out 3
        go_wp2
        refine bodyPost_ret (results_ct rfl _ _ gb273 32 #[.int .i64 0, .int .i64 0, .int .i64 0, .int .i64 0] (0, 0) _ rfl (by (with_reducible repeat (first | refine blk_drewN ?_ _ | refine blk_drew ?_ | refine blk_alloc ?_ _)); refine blk_put (cs := #[.int .i64 0, .int .i64 0, .int .i64 0, .int .i64 0]) ?_ 3 _ rfl; (with_reducible repeat (first | refine blk_drewN ?_ _ | refine blk_drew ?_ | refine blk_alloc ?_ _)); refine blk_put (cs := #[.int .i64 0, .int .i64 0, .int .i64 0, .int .i64 0]) ?_ 2 _ rfl; (with_reducible repeat (first | refine blk_drewN ?_ _ | refine blk_drew ?_ | refine blk_alloc ?_ _)); refine blk_put (cs := #[.int .i64 0, .int .i64 0, .int .i64 0, .int .i64 0]) ?_ 1 _ rfl; (with_reducible repeat (first | refine blk_drewN ?_ _ | refine blk_drew ?_ | refine blk_alloc ?_ _)); refine blk_put (cs := #[.int .i64 0, .int .i64 0, .int .i64 0, .int .i64 0]) ?_ 0 _ rfl; (with_reducible repeat (first | refine blk_drewN ?_ _ | refine blk_drew ?_ | refine blk_alloc ?_ _)); exact BK273.out) Try.underlying32 rfl (by kernel_rfl)) rfl ?_
        exact ⟨qq12, qq3 HB.out GE273.out⟩
      · replace c7 := Bool.eq_false_iff.mpr c7
        subst c7
        have H1 : (if a1 > 0 then (if 0 ≤ (wrap64 (a1 - 1)) then (if (wrap64 (a1 - 1)) < (l0.length : Int) then (some ((rd_T32 l0 (wrap64 (a1 - 1))).f0, (rd_T32 l0 (wrap64 (a1 - 1))).f1, (rd_T32 l0 (wrap64 (a1 - 1))).f2, (rd_T32 l0 (wrap64 (a1 - 1))).f3, true)) else (none)) else (none)) else (if 0 ≤ (wrap64 ((wrap64 (-a1)) - 1)) then (if (wrap64 ((wrap64 (-a1)) - 1)) < (l0.length : Int) then (some ((rd_T32 l0 (wrap64 ((wrap64 (-a1)) - 1))).f1, (rd_T32 l0 (wrap64 ((wrap64 (-a1)) - 1))).f0, wrap64 (-((rd_T32 l0 (wrap64 ((wrap64 (-a1)) - 1))).f2)), (rd_T32 l0 (wrap64 ((wrap64 (-a1)) - 1))).f3, true)) else (none)) else (none))) = some (r1, r2, r3, r4, r5) := by rw [if_neg (show ¬ (false = true) by decide)] at H; exact H
        clear H
        have H := H1
        clear H1
        by_cases c9 : a1 > 0
        · rw [if_pos c9] at H
          have c9b0 : decide (0 < a1) = true := decide_eq_true c9
          clear c9
          obtain ⟨ji10, hji10⟩ : ∃ j_ : Int, (wrap64 (a1 - 1)) = j_ := ⟨_, rfl⟩
          replace H : (if 0 ≤ (ji10) then (if (ji10) < (l0.length : Int) then (some ((rd_T32 l0 (ji10)).f0, (rd_T32 l0 (ji10)).f1, (rd_T32 l0 (ji10)).f2, (rd_T32 l0 (ji10)).f3, true)) else (none)) else (none)) = some (r1, r2, r3, r4, r5) := by first | (rw [hji10] at H; exact H) | (simp only [hji10] at H ⊢; exact H)
          have hji10w : (IntKind.i64.wrap (a1 - 1)) = ji10 := (i64_w _).trans hji10
          by_cases c11 : 0 ≤ (ji10)
          · rw [if_pos c11] at H
            have c11b0 : decide (0 ≤ (ji10)) = true := decide_eq_true c11
            clear c11
            by_cases c12 : (ji10) < (l0.length : Int)
            · rw [if_pos c12] at H
              have c12b0 : decide ((ji10) < (l0.length : Int)) = true := decide_eq_true c12
              clear c12
              simp only [Option.some.injEq, Prod.mk.injEq] at H
              obtain ⟨rfl, rfl, rfl, rfl, rfl⟩ := H
              have p274 : 0 ≤ ((ji10) : Int) := of_decide_eq_true qq7
              have q274 : (ji10) < (l0.length : Int) := of_decide_eq_true qq7
              obtain ⟨ad274, e274, hx274_0, hx274_1, hx274_2, hx274_3⟩ := at_T32 HR0.out (ji10) p274 q274
              cases e274
              replace hx274_0 := (HB.out.cell (World.block_lt_of_cell? w _ hx274_0)).trans hx274_0
              replace hx274_1 := (HB.out.cell (World.block_lt_of_cell? w _ hx274_1)).trans hx274_1
              replace hx274_2 := (HB.out.cell (World.block_lt_of_cell? w _ hx274_2)).trans hx274_2
              replace hx274_3 := (HB.out.cell (World.block_lt_of_cell? w _ hx274_3)).trans hx274_3
              replace p274 := eq_true p274
              replace q274 := eq_true q274
              have hcz13_0 : wc.cell? ⟨gb273, 0, none⟩ = some (.int .i64 0) := (blk_cell BK273.out 0).trans rfl
              have hcz13_1 : wc.cell? ⟨gb273, 1, none⟩ = some (.int .i64 0) := (blk_cell BK273.out 1).trans rfl
              have hcz13_2 : wc.cell? ⟨gb273, 2, none⟩ = some (.int .i64 0) := (blk_cell BK273.out 2).trans rfl
              have hcz13_3 : wc.cell? ⟨gb273, 3, none⟩ = some (.int .i64 0) := (blk_cell BK273.out 3).trans rfl
              have hfz13_0 := blk_frozen BK273.out 0
              have hfz13_1 := blk_frozen BK273.out 1
              have hfz13_2 := blk_frozen BK273.out 2
              have hfz13_3 := blk_frozen BK273.out 3
              go_wp2
              refine bodyPost_ret (results_ct rfl _ _ gb273 32 #[.int .i64 ((rd_T32 l0 (ji10)).f0), .int .i64 ((rd_T32 l0 (ji10)).f1), .int .i64 ((rd_T32 l0 (ji10)).f2), .int .i64 ((rd_T32 l0 (ji10)).f3)] (0, 0) _ rfl (by (with_reducible repeat (first | refine blk_drewN ?_ _ | refine blk_drew ?_ | refine blk_alloc ?_ _)); refine blk_put (cs := #[.int .i64 ((rd_T32 l0 (ji10)).f0), .int .i64 ((rd_T32 l0 (ji10)).f1), .int .i64 ((rd_T32 l0 (ji10)).f2), .int .i64 0]) ?_ 3 _ rfl; (with_reducible repeat (first | refine blk_drewN ?_ _ | refine blk_drew ?_ | refine blk_alloc ?_ _)); refine blk_put (cs := #[.int .i64 ((rd_T32 l0 (ji10)).f0), .int .i64 ((rd_T32 l0 (ji10)).f1), .int .i64 0, .int .i64 0]) ?_ 2 _ rfl; (with_reducible repeat (first | refine blk_drewN ?_ _ | refine blk_drew ?_ | refine blk_alloc ?_ _)); refine blk_put (cs := #[.int .i64 ((rd_T32 l0 (ji10)).f0), .int .i64 0, .int .i64 0, .int .i64 0]) ?_ 1 _ rfl; (with_reducible repeat (first | refine blk_drewN ?_ _ | refine blk_drew ?_ | refine blk_alloc ?_ _)); refine blk_put (cs := #[.int .i64 0, .int .i64 0, .int .i64 0, .int .i64 0]) ?_ 0 _ rfl; (with_reducible repeat (first | refine blk_drewN ?_ _ | refine blk_drew ?_ | refine blk_alloc ?_ _)); exact BK273.out) Try.underlying32 rfl (by kernel_rfl)) rfl ?_
              exact ⟨by first | rfl | (simp [errW_none, errW_some] <;> rfl) | (simp only [← hji10]; first | rfl | (simp [errW_none, errW_some] <;> rfl)) | (simp [*, errW_none, errW_some] <;> rfl), qq3 HB.out GE273.out⟩
            · rw [if_neg c12] at H
              exact absurd H (by simp)
          · rw [if_neg c11] at H
            exact absurd H (by simp)
        · rw [if_neg c9] at H
          have c9b0 : decide (0 < a1) = false := decide_eq_false c9
          clear c9
          obtain ⟨ji14, hji14⟩ : ∃ j_ : Int, (wrap64 ((wrap64 (-a1)) - 1)) = j_ := ⟨_, rfl⟩
          replace H : (if 0 ≤ (ji14) then (if (ji14) < (l0.length : Int) then (some ((rd_T32 l0 (ji14)).f1, (rd_T32 l0 (ji14)).f0, wrap64 (-((rd_T32 l0 (ji14)).f2)), (rd_T32 l0 (ji14)).f3, true)) else (none)) else (none)) = some (r1, r2, r3, r4, r5) := by first | (rw [hji14] at H; exact H) | (simp only [hji14] at H ⊢; exact H)
          have hji14w : (IntKind.i64.wrap ((wrap64 (-a1)) - 1)) = ji14 := (i64_w _).trans hji14
          by_cases c15 : 0 ≤ (ji14)
          · rw [if_pos c15] at H
            have c15b0 : decide (0 ≤ (ji14)) = true := decide_eq_true c15
            clear c15
            by_cases c16 : (ji14) < (l0.length : Int)
            · rw [if_pos c16] at H
              have c16b0 : decide ((ji14) < (l0.length : Int)) = true := decide_eq_true c16
              clear c16
              simp only [Option.some.injEq, Prod.mk.injEq] at H
              obtain ⟨rfl, rfl, rfl, rfl, rfl⟩ := H
              have p275 : 0 ≤ ((ji14) : Int) := of_decide_eq_true qq7
              have q275 : (ji14) < (l0.length : Int) := of_decide_eq_true qq7
              obtain ⟨ad275, e275, hx275_0, hx275_1, hx275_2, hx275_3⟩ := at_T32 HR0.out (ji14) p275 q275
              cases e275
              replace hx275_0 := (HB.out.cell (World.block_lt_of_cell? w _ hx275_0)).trans hx275_0
              replace hx275_1 := (HB.out.cell (World.block_lt_of_cell? w _ hx275_1)).trans hx275_1
              replace hx275_2 := (HB.out.cell (World.block_lt_of_cell? w _ hx275_2)).trans hx275_2
              replace hx275_3 := (HB.out.cell (World.block_lt_of_cell? w _ hx275_3)).trans hx275_3
              replace p275 := eq_true p275
              replace q275 := eq_true q275
              go_wp2_with (first | ((with_reducible refine gate_dst (N := 6) rfl ?_); (try (refine gate_guard (by rfl) ?_; dsimp only)); refine box_event ?hg (N := 6) ?hd (cs := #[.int .i64 0, .int .i64 0, .int .i64 0, .int .i64 0]) (t := 32) ?hr ?_; (case hd => rfl); (case hg => rfl); (case hr => exact qq18); intro gb276 hg w17 hbox hb; have n0_ := Aside0.mk (bbl_ BK273.out hb); have n1_ := Aside0.mk (below_step (qq3 HB.out GE273.out) hb); have n2_ := Aside0.mk (hbox); have n3_ := Aside0.mk ((by rw [hg]; exact (below_size (qq3 HB.out GE273.out)) : w.heap.size ≤ gb276)); have n4_ := Aside0.mk ((by rw [hg]; exact (below_size (qq3 HB.out GE273.out)) : w.heap.size ≤ gb276)); have n5_ := Aside0.mk ((by rw [hg]; exact Nat.ne_of_lt (blt_ BK273.out) : gb273 ≠ gb276)); have n6_ := Aside0.mk ((by rw [hg]; exact Nat.ne_of_gt (blt_ BK273.out) : gb276 ≠ gb273)); clear BK273; clear HB; have BK273 := n0_; have HB := n1_; have BK276 := n2_; have GW276 := n3_; have GE276 := n4_; have NB273_276 := n5_; have NB276_273 := n6_; clear n0_ n1_ n2_ n3_ n4_ n5_ n6_; clear hb hbox hg; have hnb18 := NB276_273.out; have hnc18 := NB273_276.out; have hcz19_0 : w17.cell? ⟨gb276, 0, none⟩ = some (.int .i64 0) := (blk_cell BK276.out 0).trans rfl; have hcz19_1 : w17.cell? ⟨gb276, 1, none⟩ = some (.int .i64 0) := (blk_cell BK276.out 1).trans rfl; have hcz19_2 : w17.cell? ⟨gb276, 2, none⟩ = some (.int .i64 0) := (blk_cell BK276.out 2).trans rfl; have hcz19_3 : w17.cell? ⟨gb276, 3, none⟩ = some (.int .i64 0) := (blk_cell BK276.out 3).trans rfl; have hfz19_0 := blk_frozen BK276.out 0; have hfz19_1 := blk_frozen BK276.out 1; have hfz19_2 := blk_frozen BK276.out 2; have hfz19_3 := blk_frozen BK276.out 3; have hcz20_0 : w17.cell? ⟨gb273, 0, none⟩ = some (.int .i64 0) := (blk_cell BK273.out 0).trans rfl; have hcz20_1 : w17.cell? ⟨gb273, 1, none⟩ = some (.int .i64 0) := (blk_cell BK273.out 1).trans rfl; have hcz20_2 : w17.cell? ⟨gb273, 2, none⟩ = some (.int .i64 0) := (blk_cell BK273.out 2).trans rfl; have hcz20_3 : w17.cell? ⟨gb273, 3, none⟩ = some (.int .i64 0) := (blk_cell BK273.out 3).trans rfl; have hfz20_0 := blk_frozen BK273.out 0; have hfz20_1 := blk_frozen BK273.out 1; have hfz20_2 := blk_frozen BK273.out 2; have hfz20_3 := blk_frozen BK273.out 3))
              refine bodyPost_ret (results_ct rfl _ _ gb273 32 #[.int .i64 ((rd_T32 l0 (ji14)).f1), .int .i64 ((rd_T32 l0 (ji14)).f0), .int .i64 (wrap64 (-((rd_T32 l0 (ji14)).f2))), .int .i64 ((rd_T32 l0 (ji14)).f3)] (0, 0) _ rfl (by (with_reducible repeat (first | refine blk_drewN ?_ _ | refine blk_drew ?_ | refine blk_alloc ?_ _)); refine blk_put (cs := #[.int .i64 ((rd_T32 l0 (ji14)).f1), .int .i64 ((rd_T32 l0 (ji14)).f0), .int .i64 (wrap64 (-((rd_T32 l0 (ji14)).f2))), .int .i64 0]) ?_ 3 _ rfl; (with_reducible repeat (first | refine blk_drewN ?_ _ | refine blk_drew ?_ | refine blk_alloc ?_ _)); refine blk_put (cs := #[.int .i64 ((rd_T32 l0 (ji14)).f1), .int .i64 ((rd_T32 l0 (ji14)).f0), .int .i64 0, .int .i64 0]) ?_ 2 _ rfl; (with_reducible repeat (first | refine blk_drewN ?_ _ | refine blk_drew ?_ | refine blk_alloc ?_ _)); refine blk_put (cs := #[.int .i64 ((rd_T32 l0 (ji14)).f1), .int .i64 0, .int .i64 0, .int .i64 0]) ?_ 1 _ rfl; (with_reducible repeat (first | refine blk_drewN ?_ _ | refine blk_drew ?_ | refine blk_alloc ?_ _)); refine blk_put (cs := #[.int .i64 0, .int .i64 0, .int .i64 0, .int .i64 0]) ?_ 0 _ rfl; (with_reducible repeat (first | refine blk_drewN ?_ _ | refine blk_drew ?_ | refine blk_alloc ?_ _)); refine blk_far ?_ NB273_276.out _; (with_reducible repeat (first | refine blk_drewN ?_ _ | refine blk_drew ?_ | refine blk_alloc ?_ _)); refine blk_far ?_ NB273_276.out _; (with_reducible repeat (first | refine blk_drewN ?_ _ | refine blk_drew ?_ | refine blk_alloc ?_ _)); refine blk_far ?_ NB273_276.out _; (with_reducible repeat (first | refine blk_drewN ?_ _ | refine blk_drew ?_ | refine blk_alloc ?_ _)); refine blk_far ?_ NB273_276.out _; (with_reducible repeat (first | refine blk_drewN ?_ _ | refine blk_drew ?_ | refine blk_alloc ?_ _)); exact BK273.out) Try.underlying32 rfl (by kernel_rfl)) rfl ?_
              exact ⟨by first | rfl | (simp [errW_none, errW_some] <;> rfl) | (simp only [← hji14]; first | rfl | (simp [errW_none, errW_some] <;> rfl)) | (simp [*, errW_none, errW_some] <;> rfl), qq28 HB.out GE273.out GE276.out⟩
            · rw [if_neg c16] at H
              exact absurd H (by simp)
          · rw [if_neg c15] at H
            exact absurd H (by simp)

end Go.Proofs.Ytmcfhmflncghiaa.Q
namespace Go.Proofs.Ytmcfhmflncghiaa.Q
open Go.RowKit Go.Proofs.YtmcfhmflncghiaaW.PrintWords Go.Proofs.YtmcfhmflncghiaaW.PrintLast Go.Proofs.YtmcfhmflncghiaaW.PrintMore
attribute [local go_sem] max2_int min2_int max_two min_two max_three min_three max_four min_four
set_option linter.unusedVariables false
set_option linter.unusedSimpArgs false

/-! ### impl_LoopIs: function 50 -/
mutual
def impl_LoopIs.j0 : Nat → List (S32) → List Int → Bool → Option (Bool)
  | 0, _, _, _ => none
  | k + 1, x1, x2, x27 => if x27 = true then (some false) else (if 0 ≤ (wrap64 ((x2.length : Int) - 1)) then (if (wrap64 ((x2.length : Int) - 1)) < (x2.length : Int) then ((impl_numberRun.f k x1 (rd x2 (wrap64 ((x2.length : Int) - 1)))).bind fun bt279 => (if bt279.2.2.2.2 = true then (impl_LoopIs.l0 k x1 bt279.2.1 x2 (x2.length : Int) 0) else (some false))) else (none)) else (none))
def impl_LoopIs.l0 : Nat → List (S32) → Int → List Int → Int → Int → Option (Bool)
  | 0, _, _, _, _, _ => none
  | k + 1, x1, x9, x43, x44, x45 => if x45 < x44 then (if 0 ≤ x45 then (if x45 < (x43.length : Int) then ((impl_numberRun.f k x1 (rd x43 x45)).bind fun bt286 => (if bt286.2.2.2.2 = true then (if bt286.1 = x9 then (impl_LoopIs.l0 k x1 bt286.2.1 x43 x44 (wrap64 (x45 + 1))) else (some false)) else (some false))) else (none)) else (none)) else (some true)
end
def impl_LoopIs.f (k : Nat) (a0 : Int) (l1 : List (S32)) (l2 : List Int) : Option (Bool) := (impl_NetValid.f k a0 l1).bind fun t277 => (if t277 = true then (if (l2.length : Int) < 1 then (impl_LoopIs.j0 k l1 l2 true) else (impl_LoopIs.j0 k l1 l2 (decide ((l2.length : Int) > 12)))) else (impl_LoopIs.j0 k l1 l2 true))
set_option maxHeartbeats 8000000 in
set_option maxRecDepth 100000 in
theorem impl_LoopIs.calls (k : Nat) (a0 : Int) (A1 : Option Addr) (c1 : Nat) (l1 : List (S32)) (A2 : Option Addr) (c2 : Nat) (l2 : List Int) (r : Bool) (w : World) (hr1 : Kd.C k32 w A1 l1.length l1) (hc1 : l1.length ≤ c1) (hr2 : Kd.C (Kd.int .i64) w A2 l2.length l2) (hc2 : l2.length ≤ c2) (h : impl_LoopIs.f k a0 l1 l2 = some r) :
    Calls Try.prog 50 #[.int .i64 a0, .slice A1 l1.length c1, .slice A2 l2.length c2] w fun e w' => e = .returned (.bool r) ∧ Below w.heap.size w w' := by
  have hu32 := Try.underlying32
  have HR1 := Aside0.mk hr1
  have HC1 := Aside0.mk hc1
  clear hr1 hc1
  have HR2 := Aside0.mk hr2
  have HC2 := Aside0.mk hc2
  clear hr2 hc2
  have HB := Aside0.mk (Below.refl w.heap.size w)
  have H : ((impl_NetValid.f k a0 l1).bind fun t277 => (if t277 = true then (if (l2.length : Int) < 1 then (impl_LoopIs.j0 k l1 l2 true) else (impl_LoopIs.j0 k l1 l2 (decide ((l2.length : Int) > 12)))) else (impl_LoopIs.j0 k l1 l2 true))) = some r := h
  clear h
  have HC4 := Aside0.mk H
  clear H
  go_enter Try.func50, Try.ntmps50
  go_upto_region 1 with (fail)
  go_cut [27] (fun v27 wc => ∃ (kq : Nat) (x27_3 : Bool), v27 = .bool x27_3 ∧ Aside0 (impl_LoopIs.j0 kq l1 l2 x27_3 = some r) ∧ Aside0 (kq ≤ k) ∧ Aside0 (Below w.heap.size w wc))
  case first =>
    have H := HC4.out
    clear HC4
    replace H := Option.bind_eq_some_iff.mp H
    obtain ⟨t277, A50, H⟩ := H
    replace H : (if t277 = true then (if (l2.length : Int) < 1 then (impl_LoopIs.j0 k l1 l2 true) else (impl_LoopIs.j0 k l1 l2 (decide ((l2.length : Int) > 12)))) else (impl_LoopIs.j0 k l1 l2 true)) = some r := H
    have A5 := Aside0.mk A50
    clear A50
    by_cases c6 : t277 = true
    · subst c6
      have H1 : (if (l2.length : Int) < 1 then (impl_LoopIs.j0 k l1 l2 true) else (impl_LoopIs.j0 k l1 l2 (decide ((l2.length : Int) > 12)))) = some r := by rw [if_pos rfl] at H; exact H
      clear H
      have H := H1
      clear H1
      by_cases c7 : (l2.length : Int) < 1
      · rw [if_pos c7] at H
        have c7b0 : decide ((l2.length : Int) < 1) = true := decide_eq_true c7
        have c7b1 : decide (l2.length < 1) = true := decide_eq_true (by omega)
        clear c7
        (first | rw [c7b0] | (simp only [i64_w, i32_w]; rw [c7b0]) | skip)
        have H' := Aside0.mk H
        clear H
        go_wp2_with (first | ((with_reducible refine gate_callee (f := 23) rfl ?_); refine goesL_ (some 16) rfl rfl Try.func23 (by kernel_rfl) rfl #[.int .i64 a0, .slice A1 l1.length c1] rfl qq5 ?_; (with_reducible refine (impl_NetValid.calls k a0 _ _ l1 true _ ?side1 ?side2 A5.out).mono ?_); (case side1 => exact qq38); (case side2 => exact HC1.out); rintro e w8 ⟨rfl, hb⟩; refine ⟨_, rfl, ?_⟩; have n0_ := Aside0.mk (below_step qq1 hb); clear HB; have HB := n0_; clear n0_; (try clear hb); (try clear hb2); (try clear hk); (try clear hi)))
        go_meet
        case rel => exact ⟨_, (true), qq11, H', ⟨qq24⟩, ⟨qq1⟩⟩
      · rw [if_neg c7] at H
        have c7b0 : decide ((l2.length : Int) < 1) = false := decide_eq_false c7
        have c7b1 : decide (l2.length < 1) = false := decide_eq_false (by omega)
        clear c7
        (first | rw [c7b0] | (simp only [i64_w, i32_w]; rw [c7b0]) | skip)
        have H' := Aside0.mk H
        clear H
        go_wp2_with (first | ((with_reducible refine gate_callee (f := 23) rfl ?_); refine goesL_ (some 16) rfl rfl Try.func23 (by kernel_rfl) rfl #[.int .i64 a0, .slice A1 l1.length c1] rfl qq5 ?_; (with_reducible refine (impl_NetValid.calls k a0 _ _ l1 true _ ?side1 ?side2 A5.out).mono ?_); (case side1 => exact qq38); (case side2 => exact HC1.out); rintro e w9 ⟨rfl, hb⟩; refine ⟨_, rfl, ?_⟩; have n0_ := Aside0.mk (below_step qq1 hb); clear HB; have HB := n0_; clear n0_; (try clear hb); (try clear hb2); (try clear hk); (try clear hi)))
        go_meet
        case rel => exact ⟨_, (decide ((l2.length : Int) > 12)), qq11, H', ⟨qq24⟩, ⟨qq1⟩⟩
    · replace c6 := Bool.eq_false_iff.mpr c6
      subst c6
      have H1 : (impl_LoopIs.j0 k l1 l2 true) = some r := by rw [if_neg (show ¬ (false = true) by decide)] at H; exact H
      clear H
      have H := H1
      clear H1
      have H' := Aside0.mk H
      clear H
      go_wp2_with (first | ((with_reducible refine gate_callee (f := 23) rfl ?_); refine goesL_ (some 16) rfl rfl Try.func23 (by kernel_rfl) rfl #[.int .i64 a0, .slice A1 l1.length c1] rfl qq5 ?_; (with_reducible refine (impl_NetValid.calls k a0 _ _ l1 false _ ?side1 ?side2 A5.out).mono ?_); (case side1 => exact qq38); (case side2 => exact HC1.out); rintro e w10 ⟨rfl, hb⟩; refine ⟨_, rfl, ?_⟩; have n0_ := Aside0.mk (below_step qq1 hb); clear HB; have HB := n0_; clear n0_; (try clear hb); (try clear hb2); (try clear hk); (try clear hi)))
      go_meet
      case rel => exact ⟨_, (true), qq11, H', ⟨qq24⟩, ⟨qq1⟩⟩
  case rest =>
    clear HC4
    try clear c1
    try clear c2
    try clear p2
    try clear c5
    try clear c6
    try clear c7
    try clear c7b0
    try clear c7b1
    obtain ⟨kq, x27_3, rfl, HA, HJ3, HB⟩ := hcut
    cases kq with
    | zero => exact absurd HA.out (by simp [impl_LoopIs.j0])
    | succ kj3 =>
      have H := HA.out
      clear HA
      simp only [impl_LoopIs.j0] at H
      by_cases c11 : x27_3 = true
      · subst c11
        have H1 : (some false) = some r := by rw [if_pos rfl] at H; exact H
        clear H
        have H := H1
        clear H1
        obtain rfl := Option.some.inj H
        go_wp2
        go_ret
        exact ⟨qq12, qq1⟩
      · replace c11 := Bool.eq_false_iff.mpr c11
        subst c11
        have H1 : (if 0 ≤ (wrap64 ((l2.length : Int) - 1)) then (if (wrap64 ((l2.length : Int) - 1)) < (l2.length : Int) then ((impl_numberRun.f kj3 l1 (rd l2 (wrap64 ((l2.length : Int) - 1)))).bind fun bt279 => (if bt279.2.2.2.2 = true then (impl_LoopIs.l0 kj3 l1 bt279.2.1 l2 (l2.length : Int) 0) else (some false))) else (none)) else (none)) = some r := by rw [if_neg (show ¬ (false = true) by decide)] at H; exact H
        clear H
        have H := H1
        clear H1
        obtain ⟨ji12, hji12⟩ : ∃ j_ : Int, (wrap64 ((l2.length : Int) - 1)) = j_ := ⟨_, rfl⟩
        replace H : (if 0 ≤ (ji12) then (if (ji12) < (l2.length : Int) then ((impl_numberRun.f kj3 l1 (rd l2 (ji12))).bind fun bt279 => (if bt279.2.2.2.2 = true then (impl_LoopIs.l0 kj3 l1 bt279.2.1 l2 (l2.length : Int) 0) else (some false))) else (none)) else (none)) = some r := by first | (rw [hji12] at H; exact H) | (simp only [hji12] at H ⊢; exact H)
        have hji12w : (IntKind.i64.wrap ((l2.length : Int) - 1)) = ji12 := (i64_w _).trans hji12
        by_cases c13 : 0 ≤ (ji12)
        · rw [if_pos c13] at H
          have c13b0 : decide (0 ≤ (ji12)) = true := decide_eq_true c13
          clear c13
          by_cases c14 : (ji12) < (l2.length : Int)
          · rw [if_pos c14] at H
            have c14b0 : decide ((ji12) < (l2.length : Int)) = true := decide_eq_true c14
            clear c14
            replace H := Option.bind_eq_some_iff.mp H
            obtain ⟨⟨t279, t280, t281, t282, t283⟩, A150, H⟩ := H
            replace H : (if t283 = true then (impl_LoopIs.l0 kj3 l1 t280 l2 (l2.length : Int) 0) else (some false)) = some r := H
            have A15 := Aside0.mk A150
            clear A150
            by_cases c16 : t283 = true
            · subst c16
              have H1 : (impl_LoopIs.l0 kj3 l1 t280 l2 (l2.length : Int) 0) = some r := by rw [if_pos rfl] at H; exact H
              clear H
              have H := H1
              clear H1
              have H' := Aside0.mk H
              clear H
              have p278 : 0 ≤ ((ji12) : Int) := of_decide_eq_true qq7
              have q278 : (ji12) < (l2.length : Int) := of_decide_eq_true qq7
              obtain ⟨ad278, e278, hx278_0⟩ := Kd.at_int HR2.out (ji12) p278 q278
              cases e278
              replace hx278_0 := (HB.out.cell (World.block_lt_of_cell? w _ hx278_0)).trans hx278_0
              replace p278 := eq_true p278
              replace q278 := eq_true q278
              go_wp2_with (first | ((with_reducible refine gate_callee (f := 51) rfl ?_); refine goesL_ (some 36) rfl rfl Try.func51 (by kernel_rfl) rfl #[.slice A1 l1.length c1, .int .i64 (rd l2 (ji12))] rfl qq41 ?_; (with_reducible refine (impl_numberRun.calls kj3 _ _ l1 (rd l2 (ji12)) t279 t280 t281 t282 true _ ?side1 ?side2 A15.out).mono ?_); (case side1 => exact qq38); (case side2 => exact HC1.out); rintro e w17 ⟨rfl, hb⟩; refine ⟨_, rfl, ?_⟩; have n0_ := Aside0.mk (below_step qq1 hb); clear HB; have HB := n0_; clear n0_; (try clear hb); (try clear hb2); (try clear hk); (try clear hi)) | ((with_reducible refine gate_dst (N := 7) rfl ?_); (try (refine gate_guard (by rfl) ?_; dsimp only)); refine box_event ?hg (N := 7) ?hd (cs := #[.int .i64 0, .int .i64 0, .int .i64 0, .int .i64 0]) (t := 32) ?hr ?_; (case hd => rfl); (case hg => rfl); (case hr => exact qq18); intro gb284 hg w18 hbox hb; have n0_ := Aside0.mk (below_step qq1 hb); have n1_ := Aside0.mk (hbox); have n2_ := Aside0.mk ((qq29 : w.heap.size ≤ gb284)); have n3_ := Aside0.mk ((qq29 : w.heap.size ≤ gb284)); clear HB; have HB := n0_; have BK284 := n1_; have GW284 := n2_; have GE284 := n3_; clear n0_ n1_ n2_ n3_; clear hb hbox hg; have hcz19_0 : w18.cell? ⟨gb284, 0, none⟩ = some (.int .i64 0) := (blk_cell BK284.out 0).trans rfl; have hcz19_1 : w18.cell? ⟨gb284, 1, none⟩ = some (.int .i64 0) := (blk_cell BK284.out 1).trans rfl; have hcz19_2 : w18.cell? ⟨gb284, 2, none⟩ = some (.int .i64 0) := (blk_cell BK284.out 2).trans rfl; have hcz19_3 : w18.cell? ⟨gb284, 3, none⟩ = some (.int .i64 0) := (blk_cell BK284.out 3).trans rfl; have hfz19_0 := blk_frozen BK284.out 0; have hfz19_1 := blk_frozen BK284.out 1; have hfz19_2 := blk_frozen BK284.out 2; have hfz19_3 := blk_frozen BK284.out 3))
              go_loopg [9, 45] kj3 (fun kq v9 v45 w' => ∃ (x9_2 : Int) (x45_2 : Int), v9 = .int .i64 x9_2 ∧ v45 = .int .i64 x45_2 ∧ Aside0 (impl_LoopIs.l0 kq l1 x9_2 l2 (l2.length : Int) x45_2 = some r) ∧ Aside0 (kq ≤ kj3) ∧ Aside0 (w'.heap[gb284]? = some (.cells #[.int .i64 t279, .int .i64 t280, .int .i64 t281, .int .i64 t282] 32 (0, 0))) ∧ Aside0 (Below w.heap.size w w'))
              case atStart => exact ⟨(t280), (0), qq11, qq11, H', ⟨Nat.le_refl _⟩, ⟨by (with_reducible repeat (first | refine blk_drewN ?_ _ | refine blk_drew ?_ | refine blk_alloc ?_ _)); refine blk_put (cs := #[.int .i64 t279, .int .i64 t280, .int .i64 t281, .int .i64 0]) ?_ 3 _ rfl; (with_reducible repeat (first | refine blk_drewN ?_ _ | refine blk_drew ?_ | refine blk_alloc ?_ _)); refine blk_put (cs := #[.int .i64 t279, .int .i64 t280, .int .i64 0, .int .i64 0]) ?_ 2 _ rfl; (with_reducible repeat (first | refine blk_drewN ?_ _ | refine blk_drew ?_ | refine blk_alloc ?_ _)); refine blk_put (cs := #[.int .i64 t279, .int .i64 0, .int .i64 0, .int .i64 0]) ?_ 1 _ rfl; (with_reducible repeat (first | refine blk_drewN ?_ _ | refine blk_drew ?_ | refine blk_alloc ?_ _)); refine blk_put (cs := #[.int .i64 0, .int .i64 0, .int .i64 0, .int .i64 0]) ?_ 0 _ rfl; (with_reducible repeat (first | refine blk_drewN ?_ _ | refine blk_drew ?_ | refine blk_alloc ?_ _)); exact BK284.out⟩, ⟨qq3 HB.out GE284.out⟩⟩
              case round =>
                clear H'
                try clear c1
                try clear c2
                try clear p2
                try clear q2
                try clear hx2
                try clear c5
                try clear c6
                try clear p6
                try clear c7
                try clear c7b0
                try clear c7b1
                try clear c11
                try clear c13
                try clear c13b0
                try clear c14
                try clear c14b0
                try clear c16
                try clear hcz19_0
                try clear hcz19_1
                try clear hcz19_2
                try clear hcz19_3
                try clear hfz19_0
                try clear hfz19_1
                try clear hfz19_2
                try clear hfz19_3
                try clear hx278_0
                try clear p2
                try clear p278
                try clear q278
                obtain ⟨x9_2, x45_2, rfl, rfl, HA, HK2, BK284, HB⟩ := hrel
                cases gk with
                | zero => exact absurd HA.out (by simp [impl_LoopIs.l0])
                | succ k2 =>
                  have H := HA.out
                  clear HA
                  simp only [impl_LoopIs.l0] at H
                  by_cases c20 : x45_2 < (l2.length : Int)
                  · rw [if_pos c20] at H
                    have c20b0 : decide (x45_2 < (l2.length : Int)) = true := decide_eq_true c20
                    clear c20
                    by_cases c21 : 0 ≤ x45_2
                    · rw [if_pos c21] at H
                      have c21b0 : decide (0 ≤ x45_2) = true := decide_eq_true c21
                      clear c21
                      by_cases c22 : x45_2 < (l2.length : Int)
                      · rw [if_pos c22] at H
                        have c22b0 : decide (x45_2 < (l2.length : Int)) = true := decide_eq_true c22
                        clear c22
                        replace H := Option.bind_eq_some_iff.mp H
                        obtain ⟨⟨t286, t287, t288, t289, t290⟩, A230, H⟩ := H
                        replace H : (if t290 = true then (if t286 = x9_2 then (impl_LoopIs.l0 k2 l1 t287 l2 (l2.length : Int) (wrap64 (x45_2 + 1))) else (some false)) else (some false)) = some r := H
                        have A23 := Aside0.mk A230
                        clear A230
                        by_cases c24 : t290 = true
                        · subst c24
                          have H1 : (if t286 = x9_2 then (impl_LoopIs.l0 k2 l1 t287 l2 (l2.length : Int) (wrap64 (x45_2 + 1))) else (some false)) = some r := by rw [if_pos rfl] at H; exact H
                          clear H
                          have H := H1
                          clear H1
                          by_cases c25 : t286 = x9_2
                          · rw [if_pos c25] at H
                            have c25b0 : (t286 == x9_2) = true := beq_iff_eq.mpr c25
                            have c25b1 : (t286 != x9_2) = false := bne_eq_false_iff_eq.mpr c25
                            clear c25
                            have H' := Aside0.mk H
                            clear H
                            have p285 : 0 ≤ (x45_2 : Int) := of_decide_eq_true qq7
                            have q285 : x45_2 < (l2.length : Int) := of_decide_eq_true qq7
                            obtain ⟨ad285, e285, hx285_0⟩ := Kd.at_int HR2.out x45_2 p285 q285
                            obtain rfl : ad278 = ad285 := (by injection e285)
                            replace hx285_0 := (HB.out.cell (World.block_lt_of_cell? w _ hx285_0)).trans hx285_0
                            replace p285 := eq_true p285
                            replace q285 := eq_true q285
                            go_wp2_with (first | ((with_reducible refine gate_callee (f := 51) rfl ?_); refine goesL_ (some 52) rfl rfl Try.func51 (by kernel_rfl) rfl #[.slice A1 l1.length c1, .int .i64 (rd l2 x45_2)] rfl qq5 ?_; (with_reducible refine (impl_numberRun.calls k2 _ _ l1 (rd l2 x45_2) t286 t287 t288 t289 true _ ?side1 ?side2 A23.out).mono ?_); (case side1 => exact qq38); (case side2 => exact HC1.out); rintro e w26 ⟨rfl, hb⟩; refine ⟨_, rfl, ?_⟩; have n0_ := Aside0.mk (bbl_ BK284.out hb); have n1_ := Aside0.mk (below_step (qq3 HB.out GE284.out) hb); clear BK284; clear HB; have BK284 := n0_; have HB := n1_; clear n0_ n1_; (try clear hb); (try clear hb2); (try clear hk); (try clear hi)) | ((with_reducible refine gate_dst (N := 12) rfl ?_); (try (refine gate_guard (by rfl) ?_; dsimp only)); refine box_event ?hg (N := 12) ?hd (cs := #[.int .i64 0, .int .i64 0, .int .i64 0, .int .i64 0]) (t := 32) ?hr ?_; (case hd => rfl); (case hg => rfl); (case hr => exact qq18); intro gb291 hg w27 hbox hb; have n0_ := Aside0.mk (bbl_ BK284.out hb); have n1_ := Aside0.mk (below_step (qq3 HB.out GE284.out) hb); have n2_ := Aside0.mk (hbox); have n3_ := Aside0.mk ((qq35 : w.heap.size ≤ gb291)); have n4_ := Aside0.mk ((qq35 : w.heap.size ≤ gb291)); have n5_ := Aside0.mk ((qq51 : gb284 ≠ gb291)); have n6_ := Aside0.mk ((qq52 : gb291 ≠ gb284)); clear BK284; clear HB; have BK284 := n0_; have HB := n1_; have BK291 := n2_; have GW291 := n3_; have GE291 := n4_; have NB284_291 := n5_; have NB291_284 := n6_; clear n0_ n1_ n2_ n3_ n4_ n5_ n6_; clear hb hbox hg; have hnb28 := NB291_284.out; have hnc28 := NB284_291.out; have hcz29_0 : w27.cell? ⟨gb291, 0, none⟩ = some (.int .i64 0) := (blk_cell BK291.out 0).trans rfl; have hcz29_1 : w27.cell? ⟨gb291, 1, none⟩ = some (.int .i64 0) := (blk_cell BK291.out 1).trans rfl; have hcz29_2 : w27.cell? ⟨gb291, 2, none⟩ = some (.int .i64 0) := (blk_cell BK291.out 2).trans rfl; have hcz29_3 : w27.cell? ⟨gb291, 3, none⟩ = some (.int .i64 0) := (blk_cell BK291.out 3).trans rfl; have hfz29_0 := blk_frozen BK291.out 0; have hfz29_1 := blk_frozen BK291.out 1; have hfz29_2 := blk_frozen BK291.out 2; have hfz29_3 := blk_frozen BK291.out 3))
                            go_roundg k2
                            case measure => have := HJ3.out; have := HK2.out; omega
                            case rel => exact ⟨(t287), (wrap64 (x45_2 + 1)), qq11, qq11, H', ⟨by have := HJ3.out; have := HK2.out; omega⟩, ⟨by (with_reducible repeat (first | refine blk_drewN ?_ _ | refine blk_drew ?_ | refine blk_alloc ?_ _)); refine blk_far ?_ NB284_291.out _; (with_reducible repeat (first | refine blk_drewN ?_ _ | refine blk_drew ?_ | refine blk_alloc ?_ _)); refine blk_far ?_ NB284_291.out _; (with_reducible repeat (first | refine blk_drewN ?_ _ | refine blk_drew ?_ | refine blk_alloc ?_ _)); refine blk_far ?_ NB284_291.out _; (with_reducible repeat (first | refine blk_drewN ?_ _ | refine blk_drew ?_ | refine blk_alloc ?_ _)); refine blk_far ?_ NB284_291.out _; (with_reducible repeat (first | refine blk_drewN ?_ _ | refine blk_drew ?_ | refine blk_alloc ?_ _)); exact BK284.out⟩, ⟨qq28 HB.out GE284.out GE291.out⟩⟩
                          · rw [if_neg c25] at H
                            have c25b0 : (t286 == x9_2) = false := beq_eq_false_iff_ne.mpr c25
                            have c25b1 : (t286 != x9_2) = true := bne_iff_ne.mpr c25
                            obtain rfl := Option.some.inj H
                            have p285 : 0 ≤ (x45_2 : Int) := of_decide_eq_true qq7
                            have q285 : x45_2 < (l2.length : Int) := of_decide_eq_true qq7
                            obtain ⟨ad285, e285, hx285_0⟩ := Kd.at_int HR2.out x45_2 p285 q285
                            obtain rfl : ad278 = ad285 := (by injection e285)
                            replace hx285_0 := (HB.out.cell (World.block_lt_of_cell? w _ hx285_0)).trans hx285_0
                            replace p285 := eq_true p285
                            replace q285 := eq_true q285
                            go_wp2_with (first | ((with_reducible refine gate_callee (f := 51) rfl ?_); refine goesL_ (some 52) rfl rfl Try.func51 (by kernel_rfl) rfl #[.slice A1 l1.length c1, .int .i64 (rd l2 x45_2)] rfl qq5 ?_; (with_reducible refine (impl_numberRun.calls k2 _ _ l1 (rd l2 x45_2) t286 t287 t288 t289 true _ ?side1 ?side2 A23.out).mono ?_); (case side1 => exact qq38); (case side2 => exact HC1.out); rintro e w30 ⟨rfl, hb⟩; refine ⟨_, rfl, ?_⟩; have n0_ := Aside0.mk (bbl_ BK284.out hb); have n1_ := Aside0.mk (below_step (qq3 HB.out GE284.out) hb); clear BK284; clear HB; have BK284 := n0_; have HB := n1_; clear n0_ n1_; (try clear hb); (try clear hb2); (try clear hk); (try clear hi)) | ((with_reducible refine gate_dst (N := 12) rfl ?_); (try (refine gate_guard (by rfl) ?_; dsimp only)); refine box_event ?hg (N := 12) ?hd (cs := #[.int .i64 0, .int .i64 0, .int .i64 0, .int .i64 0]) (t := 32) ?hr ?_; (case hd => rfl); (case hg => rfl); (case hr => exact qq18); intro gb291 hg w31 hbox hb; have n0_ := Aside0.mk (bbl_ BK284.out hb); have n1_ := Aside0.mk (below_step (qq3 HB.out GE284.out) hb); have n2_ := Aside0.mk (hbox); have n3_ := Aside0.mk ((qq35 : w.heap.size ≤ gb291)); have n4_ := Aside0.mk ((qq35 : w.heap.size ≤ gb291)); have n5_ := Aside0.mk ((qq51 : gb284 ≠ gb291)); have n6_ := Aside0.mk ((qq52 : gb291 ≠ gb284)); clear BK284; clear HB; have BK284 := n0_; have HB := n1_; have BK291 := n2_; have GW291 := n3_; have GE291 := n4_; have NB284_291 := n5_; have NB291_284 := n6_; clear n0_ n1_ n2_ n3_ n4_ n5_ n6_; clear hb hbox hg; have hnb32 := NB291_284.out; have hnc32 := NB284_291.out; have hcz33_0 : w31.cell? ⟨gb291, 0, none⟩ = some (.int .i64 0) := (blk_cell BK291.out 0).trans rfl; have hcz33_1 : w31.cell? ⟨gb291, 1, none⟩ = some (.int .i64 0) := (blk_cell BK291.out 1).trans rfl; have hcz33_2 : w31.cell? ⟨gb291, 2, none⟩ = some (.int .i64 0) := (blk_cell BK291.out 2).trans rfl; have hcz33_3 : w31.cell? ⟨gb291, 3, none⟩ = some (.int .i64 0) := (blk_cell BK291.out 3).trans rfl; have hfz33_0 := blk_frozen BK291.out 0; have hfz33_1 := blk_frozen BK291.out 1; have hfz33_2 := blk_frozen BK291.out 2; have hfz33_3 := blk_frozen BK291.out 3))
                            go_ret
                            exact ⟨qq26, qq28 HB.out GE284.out GE291.out⟩
                        · replace c24 := Bool.eq_false_iff.mpr c24
                          subst c24
                          have H1 : (some false) = some r := by rw [if_neg (show ¬ (false = true) by decide)] at H; exact H
                          clear H
                          have H := H1
                          clear H1
                          obtain rfl := Option.some.inj H
                          have p285 : 0 ≤ (x45_2 : Int) := of_decide_eq_true qq7
                          have q285 : x45_2 < (l2.length : Int) := of_decide_eq_true qq7
                          obtain ⟨ad285, e285, hx285_0⟩ := Kd.at_int HR2.out x45_2 p285 q285
                          obtain rfl : ad278 = ad285 := (by injection e285)
                          replace hx285_0 := (HB.out.cell (World.block_lt_of_cell? w _ hx285_0)).trans hx285_0
                          replace p285 := eq_true p285
                          replace q285 := eq_true q285
                          go_wp2_with (first | ((with_reducible refine gate_callee (f := 51) rfl ?_); refine goesL_ (some 52) rfl rfl Try.func51 (by kernel_rfl) rfl #[.slice A1 l1.length c1, .int .i64 (rd l2 x45_2)] rfl qq5 ?_; (with_reducible refine (impl_numberRun.calls k2 _ _ l1 (rd l2 x45_2) t286 t287 t288 t289 false _ ?side1 ?side2 A23.out).mono ?_); (case side1 => exact qq38); (case side2 => exact HC1.out); rintro e w34 ⟨rfl, hb⟩; refine ⟨_, rfl, ?_⟩; have n0_ := Aside0.mk (bbl_ BK284.out hb); have n1_ := Aside0.mk (below_step (qq3 HB.out GE284.out) hb); clear BK284; clear HB; have BK284 := n0_; have HB := n1_; clear n0_ n1_; (try clear hb); (try clear hb2); (try clear hk); (try clear hi)) | ((with_reducible refine gate_dst (N := 12) rfl ?_); (try (refine gate_guard (by rfl) ?_; dsimp only)); refine box_event ?hg (N := 12) ?hd (cs := #[.int .i64 0, .int .i64 0, .int .i64 0, .int .i64 0]) (t := 32) ?hr ?_; (case hd => rfl); (case hg => rfl); (case hr => exact qq18); intro gb291 hg w35 hbox hb; have n0_ := Aside0.mk (bbl_ BK284.out hb); have n1_ := Aside0.mk (below_step (qq3 HB.out GE284.out) hb); have n2_ := Aside0.mk (hbox); have n3_ := Aside0.mk ((qq35 : w.heap.size ≤ gb291)); have n4_ := Aside0.mk ((qq35 : w.heap.size ≤ gb291)); have n5_ := Aside0.mk ((qq51 : gb284 ≠ gb291)); have n6_ := Aside0.mk ((qq52 : gb291 ≠ gb284)); clear BK284; clear HB; have BK284 := n0_; have HB := n1_; have BK291 := n2_; have GW291 := n3_; have GE291 := n4_; have NB284_291 := n5_; have NB291_284 := n6_; clear n0_ n1_ n2_ n3_ n4_ n5_ n6_; clear hb hbox hg; have hnb36 := NB291_284.out; have hnc36 := NB284_291.out; have hcz37_0 : w35.cell? ⟨gb291, 0, none⟩ = some (.int .i64 0) := (blk_cell BK291.out 0).trans rfl; have hcz37_1 : w35.cell? ⟨gb291, 1, none⟩ = some (.int .i64 0) := (blk_cell BK291.out 1).trans rfl; have hcz37_2 : w35.cell? ⟨gb291, 2, none⟩ = some (.int .i64 0) := (blk_cell BK291.out 2).trans rfl; have hcz37_3 : w35.cell? ⟨gb291, 3, none⟩ = some (.int .i64 0) := (blk_cell BK291.out 3).trans rfl; have hfz37_0 := blk_frozen BK291.out 0; have hfz37_1 := blk_frozen BK291.out 1; have hfz37_2 := blk_frozen BK291.out 2; have hfz37_3 := blk_frozen BK291.out 3))
                          go_ret
                          exact ⟨qq26, qq28 HB.out GE284.out GE291.out⟩
                      · rw [if_neg c22] at H
                        exact absurd H (by simp)
                    · rw [if_neg c21] at H
                      exact absurd H (by simp)
                  · rw [if_neg c20] at H
                    have c20b0 : decide (x45_2 < (l2.length : Int)) = false := decide_eq_false c20
                    clear c20
                    obtain rfl := Option.some.inj H
                    go_wp2
                    go_ret
                    exact ⟨qq26, qq3 HB.out GE284.out⟩
            · replace c16 := Bool.eq_false_iff.mpr c16
              subst c16
              have H1 : (some false) = some r := by rw [if_neg (show ¬ (false = true) by decide)] at H; exact H
              clear H
              have H := H1
              clear H1
              obtain rfl := Option.some.inj H
              have p278 : 0 ≤ ((ji12) : Int) := of_decide_eq_true qq7
              have q278 : (ji12) < (l2.length : Int) := of_decide_eq_true qq7
              obtain ⟨ad278, e278, hx278_0⟩ := Kd.at_int HR2.out (ji12) p278 q278
              cases e278
              replace hx278_0 := (HB.out.cell (World.block_lt_of_cell? w _ hx278_0)).trans hx278_0
              replace p278 := eq_true p278
              replace q278 := eq_true q278
              go_wp2_with (first | ((with_reducible refine gate_callee (f := 51) rfl ?_); refine goesL_ (some 36) rfl rfl Try.func51 (by kernel_rfl) rfl #[.slice A1 l1.length c1, .int .i64 (rd l2 (ji12))] rfl qq41 ?_; (with_reducible refine (impl_numberRun.calls kj3 _ _ l1 (rd l2 (ji12)) t279 t280 t281 t282 false _ ?side1 ?side2 A15.out).mono ?_); (case side1 => exact qq38); (case side2 => exact HC1.out); rintro e w38 ⟨rfl, hb⟩; refine ⟨_, rfl, ?_⟩; have n0_ := Aside0.mk (below_step qq1 hb); clear HB; have HB := n0_; clear n0_; (try clear hb); (try clear hb2); (try clear hk); (try clear hi)) | ((with_reducible refine gate_dst (N := 7) rfl ?_); (try (refine gate_guard (by rfl) ?_; dsimp only)); refine box_event ?hg (N := 7) ?hd (cs := #[.int .i64 0, .int .i64 0, .int .i64 0, .int .i64 0]) (t := 32) ?hr ?_; (case hd => rfl); (case hg => rfl); (case hr => exact qq18); intro gb284 hg w39 hbox hb; have n0_ := Aside0.mk (below_step qq1 hb); have n1_ := Aside0.mk (hbox); have n2_ := Aside0.mk ((qq29 : w.heap.size ≤ gb284)); have n3_ := Aside0.mk ((qq29 : w.heap.size ≤ gb284)); clear HB; have HB := n0_; have BK284 := n1_; have GW284 := n2_; have GE284 := n3_; clear n0_ n1_ n2_ n3_; clear hb hbox hg; have hcz40_0 : w39.cell? ⟨gb284, 0, none⟩ = some (.int .i64 0) := (blk_cell BK284.out 0).trans rfl; have hcz40_1 : w39.cell? ⟨gb284, 1, none⟩ = some (.int .i64 0) := (blk_cell BK284.out 1).trans rfl; have hcz40_2 : w39.cell? ⟨gb284, 2, none⟩ = some (.int .i64 0) := (blk_cell BK284.out 2).trans rfl; have hcz40_3 : w39.cell? ⟨gb284, 3, none⟩ = some (.int .i64 0) := (blk_cell BK284.out 3).trans rfl; have hfz40_0 := blk_frozen BK284.out 0; have hfz40_1 := blk_frozen BK284.out 1; have hfz40_2 := blk_frozen BK284.out 2; have hfz40_3 := blk_frozen BK284.out 3))
              go_ret
              exact ⟨qq26, qq3 HB.out GE284.out⟩
          · rw [if_neg c14] at H
            exact absurd H (by simp)
        · rw [if_neg c13] at H
          exact absurd H (by simp)

end Go.Proofs.Ytmcfhmflncghiaa.Q
namespace Go.Proofs.Ytmcfhmflncghiaa.Q
open Go.RowKit Go.Proofs.YtmcfhmflncghiaaW.PrintWords Go.Proofs.YtmcfhmflncghiaaW.PrintLast Go.Proofs.YtmcfhmflncghiaaW.PrintMore
attribute [local go_sem] max2_int min2_int max_two min_two max_three min_three max_four min_four
set_option linter.unusedVariables false
set_option linter.unusedSimpArgs false

/-! ### impl_LoopError: function 31 -/
def impl_LoopError.l0 : Nat → List (S32) → Int → List Int → Int → Int → Option (Int × Bool)
  | 0, _, _, _, _, _ => none
  | k + 1, x1, x8, x18, x19, x20 => if x20 < x19 then (if 0 ≤ x20 then (if x20 < (x18.length : Int) then ((impl_numberRun.f k x1 (rd x18 x20)).bind fun bt294 => (impl_LoopError.l0 k x1 (wrap64 (x8 + bt294.2.2.1)) x18 x19 (wrap64 (x20 + 1)))) else (none)) else (none)) else (some (x8, true))
def impl_LoopError.f (k : Nat) (a0 : Int) (l1 : List (S32)) (l2 : List Int) : Option (Int × Bool) := (impl_LoopIs.f k a0 l1 l2).bind fun t292 => (if t292 = true then (impl_LoopError.l0 k l1 0 l2 (l2.length : Int) 0) else (some (0, false)))
set_option maxHeartbeats 8000000 in
set_option maxRecDepth 100000 in
theorem impl_LoopError.calls (k : Nat) (a0 : Int) (A1 : Option Addr) (c1 : Nat) (l1 : List (S32)) (A2 : Option Addr) (c2 : Nat) (l2 : List Int) (r1 : Int) (r2 : Bool) (w : World) (hr1 : Kd.C k32 w A1 l1.length l1) (hc1 : l1.length ≤ c1) (hr2 : Kd.C (Kd.int .i64) w A2 l2.length l2) (hc2 : l2.length ≤ c2) (h : impl_LoopError.f k a0 l1 l2 = some (r1, r2)) :
    Calls Try.prog 31 #[.int .i64 a0, .slice A1 l1.length c1, .slice A2 l2.length c2] w fun e w' => e = .returned (.tuple #[.int .i64 r1, .bool r2]) ∧ Below w.heap.size w w' := by
  have hu32 := Try.underlying32
  have HR1 := Aside0.mk hr1
  have HC1 := Aside0.mk hc1
  clear hr1 hc1
  have HR2 := Aside0.mk hr2
  have HC2 := Aside0.mk hc2
  clear hr2 hc2
  have HB := Aside0.mk (Below.refl w.heap.size w)
  have H : ((impl_LoopIs.f k a0 l1 l2).bind fun t292 => (if t292 = true then (impl_LoopError.l0 k l1 0 l2 (l2.length : Int) 0) else (some (0, false)))) = some (r1, r2) := h
  clear h
  replace H := Option.bind_eq_some_iff.mp H
  obtain ⟨t292, A40, H⟩ := H
  replace H : (if t292 = true then (impl_LoopError.l0 k l1 0 l2 (l2.length : Int) 0) else (some (0, false))) = some (r1, r2) := H
  have A4 := Aside0.mk A40
  clear A40
  by_cases c5 : t292 = true
  · subst c5
    have H1 : (impl_LoopError.l0 k l1 0 l2 (l2.length : Int) 0) = some (r1, r2) := by rw [if_pos rfl] at H; exact H
    clear H
    have H := H1
    clear H1
    have H' := Aside0.mk H
    clear H
    go_enter Try.func31, Try.ntmps31
    go_wp2_with (first | ((with_reducible refine gate_callee (f := 50) rfl ?_); refine goesL_ (some 16) rfl rfl Try.func50 (by kernel_rfl) rfl #[.int .i64 a0, .slice A1 l1.length c1, .slice A2 l2.length c2] rfl qq5 ?_; (with_reducible refine (impl_LoopIs.calls k a0 _ _ l1 _ _ l2 true _ ?side1 ?side2 ?side3 ?side4 A4.out).mono ?_); (case side1 => exact qq14 HR1.out); (case side2 => exact HC1.out); (case side3 => exact qq14 HR2.out); (case side4 => exact HC2.out); rintro e w6 ⟨rfl, hb⟩; refine ⟨_, rfl, ?_⟩; have n0_ := Aside0.mk (below_step qq1 hb); clear HB; have HB := n0_; clear n0_; (try clear hb); (try clear hb2); (try clear hk); (try clear hi)))
    go_loopg [8, 20] k (fun kq v8 v20 w' => ∃ (x8_1 : Int) (x20_1 : Int), v8 = .int .i64 x8_1 ∧ v20 = .int .i64 x20_1 ∧ Aside0 (impl_LoopError.l0 kq l1 x8_1 l2 (l2.length : Int) x20_1 = some (r1, r2)) ∧ Aside0 (kq ≤ k) ∧ Aside0 (Below w.heap.size w w'))
    case atStart => exact ⟨(0), (0), qq11, qq11, H', ⟨Nat.le_refl _⟩, ⟨qq1⟩⟩
    case round =>
      clear H'
      try clear c1
      try clear c2
      try clear p2
      try clear c3
      try clear c5
      obtain ⟨x8_1, x20_1, rfl, rfl, HA, HK1, HB⟩ := hrel
      cases gk with
      | zero => exact absurd HA.out (by simp [impl_LoopError.l0])
      | succ k1 =>
        have H := HA.out
        clear HA
        simp only [impl_LoopError.l0] at H
        by_cases c7 : x20_1 < (l2.length : Int)
        · rw [if_pos c7] at H
          have c7b0 : decide (x20_1 < (l2.length : Int)) = true := decide_eq_true c7
          clear c7
          by_cases c8 : 0 ≤ x20_1
          · rw [if_pos c8] at H
            have c8b0 : decide (0 ≤ x20_1) = true := decide_eq_true c8
            clear c8
            by_cases c9 : x20_1 < (l2.length : Int)
            · rw [if_pos c9] at H
              have c9b0 : decide (x20_1 < (l2.length : Int)) = true := decide_eq_true c9
              clear c9
              replace H := Option.bind_eq_some_iff.mp H
              obtain ⟨⟨t294, t295, t296, t297, t298⟩, A100, H⟩ := H
              replace H : (impl_LoopError.l0 k1 l1 (wrap64 (x8_1 + t296)) l2 (l2.length : Int) (wrap64 (x20_1 + 1))) = some (r1, r2) := H
              have A10 := Aside0.mk A100
              clear A100
              have H' := Aside0.mk H
              clear H
              have p293 : 0 ≤ (x20_1 : Int) := of_decide_eq_true qq7
              have q293 : x20_1 < (l2.length : Int) := of_decide_eq_true qq7
              obtain ⟨ad293, e293, hx293_0⟩ := Kd.at_int HR2.out x20_1 p293 q293
              cases e293
              replace hx293_0 := (HB.out.cell (World.block_lt_of_cell? w _ hx293_0)).trans hx293_0
              replace p293 := eq_true p293
              replace q293 := eq_true q293
              go_wp2_with (first | ((with_reducible refine gate_callee (f := 51) rfl ?_); refine goesL_ (some 27) rfl rfl Try.func51 (by kernel_rfl) rfl #[.slice A1 l1.length c1, .int .i64 (rd l2 x20_1)] rfl qq5 ?_; (with_reducible refine (impl_numberRun.calls k1 _ _ l1 (rd l2 x20_1) t294 t295 t296 t297 t298 _ ?side1 ?side2 A10.out).mono ?_); (case side1 => exact qq38); (case side2 => exact HC1.out); rintro e w11 ⟨rfl, hb⟩; refine ⟨_, rfl, ?_⟩; have n0_ := Aside0.mk (below_step qq1 hb); clear HB; have HB := n0_; clear n0_; (try clear hb); (try clear hb2); (try clear hk); (try clear hi)) | ((with_reducible refine gate_dst (N := 11) rfl ?_); refine box_event ?hg (N := 11) ?hd (cs := #[.int .i64 0, .int .i64 0, .int .i64 0, .int .i64 0]) (t := 32) ?hr ?_; (case hd => rfl); (case hg => rfl); (case hr => exact qq18); intro gb299 hg w12 hbox hb; have n0_ := Aside0.mk (below_step qq1 hb); have n1_ := Aside0.mk (hbox); have n2_ := Aside0.mk ((qq29 : w.heap.size ≤ gb299)); have n3_ := Aside0.mk ((qq29 : w.heap.size ≤ gb299)); clear HB; have HB := n0_; have BK299 := n1_; have GW299 := n2_; have GE299 := n3_; clear n0_ n1_ n2_ n3_; clear hb hbox hg; have hcz13_0 : w12.cell? ⟨gb299, 0, none⟩ = some (.int .i64 0) := (blk_cell BK299.out 0).trans rfl; have hcz13_1 : w12.cell? ⟨gb299, 1, none⟩ = some (.int .i64 0) := (blk_cell BK299.out 1).trans rfl; have hcz13_2 : w12.cell? ⟨gb299, 2, none⟩ = some (.int .i64 0) := (blk_cell BK299.out 2).trans rfl; have hcz13_3 : w12.cell? ⟨gb299, 3, none⟩ = some (.int .i64 0) := (blk_cell BK299.out 3).trans rfl; have hfz13_0 := blk_frozen BK299.out 0; have hfz13_1 := blk_frozen BK299.out 1; have hfz13_2 := blk_frozen BK299.out 2; have hfz13_3 := blk_frozen BK299.out 3))
              go_roundg k1
              case measure => have := HK1.out; omega
              case rel => exact ⟨(wrap64 (x8_1 + t296)), (wrap64 (x20_1 + 1)), qq11, qq11, H', ⟨by have := HK1.out; omega⟩, ⟨qq3 HB.out GE299.out⟩⟩
            · rw [if_neg c9] at H
              exact absurd H (by simp)
          · rw [if_neg c8] at H
            exact absurd H (by simp)
        · rw [if_neg c7] at H
          have c7b0 : decide (x20_1 < (l2.length : Int)) = false := decide_eq_false c7
          clear c7
          simp only [Option.some.injEq, Prod.mk.injEq] at H
          obtain ⟨rfl, rfl⟩ := H
          go_wp2
          go_ret2
          exact ⟨qq12, qq1⟩
  · replace c5 := Bool.eq_false_iff.mpr c5
    subst c5
    have H1 : (some (0, false)) = some (r1, r2) := by rw [if_neg (show ¬ (false = true) by decide)] at H; exact H
    clear H
    have H := H1
    clear H1
    simp only [Option.some.injEq, Prod.mk.injEq] at H
    obtain ⟨rfl, rfl⟩ := H
    go_enter Try.func31, Try.ntmps31
    go_wp2_with (first | ((with_reducible refine gate_callee (f := 50) rfl ?_); refine goesL_ (some 16) rfl rfl Try.func50 (by kernel_rfl) rfl #[.int .i64 a0, .slice A1 l1.length c1, .slice A2 l2.length c2] rfl qq5 ?_; (with_reducible refine (impl_LoopIs.calls k a0 _ _ l1 _ _ l2 false _ ?side1 ?side2 ?side3 ?side4 A4.out).mono ?_); (case side1 => exact qq14 HR1.out); (case side2 => exact HC1.out); (case side3 => exact qq14 HR2.out); (case side4 => exact HC2.out); rintro e w14 ⟨rfl, hb⟩; refine ⟨_, rfl, ?_⟩; have n0_ := Aside0.mk (below_step qq1 hb); clear HB; have HB := n0_; clear n0_; (try clear hb); (try clear hb2); (try clear hk); (try clear hi)))
    go_ret2
    exact ⟨qq12, qq1⟩

end Go.Proofs.Ytmcfhmflncghiaa.Q
namespace Go.Proofs.Ytmcfhmflncghiaa.Q
open Go.RowKit Go.Proofs.YtmcfhmflncghiaaW.PrintWords Go.Proofs.YtmcfhmflncghiaaW.PrintLast Go.Proofs.YtmcfhmflncghiaaW.PrintMore
attribute [local go_sem] max2_int min2_int max_two min_two max_three min_three max_four min_four
set_option linter.unusedVariables false
set_option linter.unusedSimpArgs false

/-! ### impl_LoopErrors: function 15 -/
def impl_LoopErrors.l0 : Nat → Int → List (S32) → List Int → Int → Int → Option (List Int × Bool)
  | 0, _, _, _, _, _ => none
  | k + 1, x0, x1, x6, x19, x20 => if x20 < x19 then ((impl_LoopOf.f k x0 x1 x20).bind fun bt307 => (if bt307.2 = true then ((impl_LoopError.f k x0 x1 bt307.1).bind fun bt311 => (if x6.length < 17592186044416 then (impl_LoopErrors.l0 k x0 x1 (x6 ++ [bt311.1]) x19 (wrap64 (x20 + 1))) else (none))) else (impl_LoopErrors.l0 k x0 x1 x6 x19 (wrap64 (x20 + 1))))) else (some (x6, true))
def impl_LoopErrors.f (k : Nat) (a0 : Int) (l1 : List (S32)) : Option (List Int × Bool) := (impl_NetWhole.f k a0 l1).bind fun t300 => (if t300 = true then (impl_LoopErrors.l0 k a0 l1 (([] : List Int)) (l1.length : Int) 0) else (some ((([] : List Int)), false)))
set_option maxHeartbeats 8000000 in
set_option maxRecDepth 100000 in
theorem impl_LoopErrors.calls (k : Nat) (a0 : Int) (A1 : Option Addr) (c1 : Nat) (l1 : List (S32)) (r1 : List Int) (r2 : Bool) (w : World) (hr1 : Kd.C k32 w A1 l1.length l1) (hc1 : l1.length ≤ c1) (h : impl_LoopErrors.f k a0 l1 = some (r1, r2)) :
    Calls Try.prog 15 #[.int .i64 a0, .slice A1 l1.length c1] w fun e w' => ∃ v0_ : Value, e = .returned (.tuple #[v0_, .bool r2]) ∧ Kd.R (Kd.int .i64) 3 w' w.heap.size (fun _ => True) v0_ r1 ∧ Below w.heap.size w w' := by
  have HR1 := Aside0.mk hr1
  have HC1 := Aside0.mk hc1
  clear hr1 hc1
  have HB := Aside0.mk (Below.refl w.heap.size w)
  have H : ((impl_NetWhole.f k a0 l1).bind fun t300 => (if t300 = true then (impl_LoopErrors.l0 k a0 l1 (([] : List Int)) (l1.length : Int) 0) else (some ((([] : List Int)), false)))) = some (r1, r2) := h
  clear h
  replace H := Option.bind_eq_some_iff.mp H
  obtain ⟨t300, A30, H⟩ := H
  replace H : (if t300 = true then (impl_LoopErrors.l0 k a0 l1 (([] : List Int)) (l1.length : Int) 0) else (some ((([] : List Int)), false))) = some (r1, r2) := H
  have A3 := Aside0.mk A30
  clear A30
  by_cases c4 : t300 = true
  · subst c4
    have H1 : (impl_LoopErrors.l0 k a0 l1 (([] : List Int)) (l1.length : Int) 0) = some (r1, r2) := by rw [if_pos rfl] at H; exact H
    clear H
    have H := H1
    clear H1
    obtain ⟨y304, hy304⟩ : ∃ y_ : List Int, y_ = (([] : List Int)) := ⟨_, rfl⟩
    replace H : (impl_LoopErrors.l0 k a0 l1 y304 (l1.length : Int) 0) = some (r1, r2) := by first | (rw [hy304]; with_reducible exact H) | (have H2_ := (Option.bind_some _ _).symm.trans H; rw [hy304]; with_reducible exact H2_) | (have H2_ := (Option.bind_some _ _).symm.trans H; with_reducible exact H2_) | with_reducible exact H | (rw [hy304]; exact H) | exact H
    have Ny304 := Aside0.mk hy304
    clear hy304
    have H' := Aside0.mk H
    clear H
    go_enter Try.func15, Try.ntmps15
    go_wp2_with (first | ((with_reducible refine gate_callee (f := 13) rfl ?_); refine goesL_ (some 14) rfl rfl Try.func13 (by kernel_rfl) rfl #[.int .i64 a0, .slice A1 l1.length c1] rfl qq5 ?_; (with_reducible refine (impl_NetWhole.calls k a0 _ _ l1 true _ ?side1 ?side2 A3.out).mono ?_); (case side1 => exact qq14 HR1.out); (case side2 => exact HC1.out); rintro e w5 ⟨rfl, hb⟩; refine ⟨_, rfl, ?_⟩; have n0_ := Aside0.mk (below_step qq1 hb); clear HB; have HB := n0_; clear n0_; (try clear hb); (try clear hb2); (try clear hk); (try clear hi)) | ((with_reducible refine gate_dst (N := 17) rfl ?_); refine Kd.R_lit (Kd.int .i64) _ 3 ?hg (N := 17) ?hd (xs := ([] : List Int)) (inner := []) (ok := fun _ => True) (okp := fun _ => True) ?hr ?hp (fun _ hk => hk) trivial (Below.refl _ _) (Nat.le_refl _) (by simp) ?_; (case hd => rfl); (case hg => rfl); (case hr => exact qq18); (case hp => exact (Reps.none _ _)); intro v305 w6 ho7 hb hg_ hnew_; clear hg_ hnew_; (first | rw [← Ny304.out] at ho7 | (simp only [Int.reduceToNat] at ho7; rw [← Ny304.out] at ho7)); have n0_ := Aside0.mk (Kd.R_lower ho7 (below_size qq1)); have n1_ := Aside0.mk (below_step qq1 hb); clear HB; have HO306 := n0_; have HB := n1_; clear n0_ n1_; clear hb ho7))
    go_loopg [6, 20] k (fun kq v6 v20 w' => ∃ (x6_1 : List Int) (x20_1 : Int), v20 = .int .i64 x20_1 ∧ Aside0 (impl_LoopErrors.l0 kq a0 l1 x6_1 (l1.length : Int) x20_1 = some (r1, r2)) ∧ Aside0 (kq ≤ k) ∧ Aside0 (Kd.R (Kd.int .i64) 3 w' w.heap.size (fun _ => True) v6 x6_1) ∧ Aside0 (Below w.heap.size w w'))
    case atStart => exact ⟨(y304), (0), qq11, H', ⟨Nat.le_refl _⟩, ⟨qq2 HO306.out⟩, ⟨qq1⟩⟩
    case round =>
      clear H'
      try clear c1
      try clear p2
      try clear c4
      obtain ⟨x6_1, x20_1, rfl, HA, HK1, HO_6, HB⟩ := hrel
      cases gk with
      | zero => exact absurd HA.out (by simp [impl_LoopErrors.l0])
      | succ k1 =>
        have H := HA.out
        clear HA
        simp only [impl_LoopErrors.l0] at H
        by_cases c8 : x20_1 < (l1.length : Int)
        · rw [if_pos c8] at H
          have c8b0 : decide (x20_1 < (l1.length : Int)) = true := decide_eq_true c8
          clear c8
          replace H := Option.bind_eq_some_iff.mp H
          obtain ⟨⟨t307, t308⟩, A90, H⟩ := H
          replace H : (if t308 = true then ((impl_LoopError.f k1 a0 l1 t307).bind fun bt311 => (if x6_1.length < 17592186044416 then (impl_LoopErrors.l0 k1 a0 l1 (x6_1 ++ [bt311.1]) (l1.length : Int) (wrap64 (x20_1 + 1))) else (none))) else (impl_LoopErrors.l0 k1 a0 l1 x6_1 (l1.length : Int) (wrap64 (x20_1 + 1)))) = some (r1, r2) := H
          have A9 := Aside0.mk A90
          clear A90
          by_cases c10 : t308 = true
          · subst c10
            have H1 : ((impl_LoopError.f k1 a0 l1 t307).bind fun bt311 => (if x6_1.length < 17592186044416 then (impl_LoopErrors.l0 k1 a0 l1 (x6_1 ++ [bt311.1]) (l1.length : Int) (wrap64 (x20_1 + 1))) else (none))) = some (r1, r2) := by rw [if_pos rfl] at H; exact H
            clear H
            have H := H1
            clear H1
            replace H := Option.bind_eq_some_iff.mp H
            obtain ⟨⟨t311, t312⟩, A110, H⟩ := H
            replace H : (if x6_1.length < 17592186044416 then (impl_LoopErrors.l0 k1 a0 l1 (x6_1 ++ [t311]) (l1.length : Int) (wrap64 (x20_1 + 1))) else (none)) = some (r1, r2) := H
            have A11 := Aside0.mk A110
            clear A110
            by_cases c12 : x6_1.length < 17592186044416
            · rw [if_pos c12] at H
              have LMc12 := Aside0.mk c12
              clear c12
              obtain ⟨y313, hy313⟩ : ∃ y_ : List Int, y_ = (x6_1 ++ [t311]) := ⟨_, rfl⟩
              replace H : (impl_LoopErrors.l0 k1 a0 l1 y313 (l1.length : Int) (wrap64 (x20_1 + 1))) = some (r1, r2) := by first | (rw [hy313]; with_reducible exact H) | (have H2_ := (Option.bind_some _ _).symm.trans H; rw [hy313]; with_reducible exact H2_) | (have H2_ := (Option.bind_some _ _).symm.trans H; with_reducible exact H2_) | with_reducible exact H | (rw [hy313]; exact H) | exact H
              have Ny313 := Aside0.mk hy313
              clear hy313
              have H' := Aside0.mk H
              clear H
              go_wp2_with (first | ((with_reducible refine gate_callee (f := 30) rfl ?_); refine goesL_ (some 27) rfl rfl Try.func30 (by kernel_rfl) rfl #[.int .i64 a0, .slice A1 l1.length c1, .int .i64 x20_1] rfl qq5 ?_; (with_reducible refine (impl_LoopOf.calls k1 a0 _ _ l1 x20_1 t307 true _ ?side1 ?side2 A9.out).mono ?_); (case side1 => exact qq38); (case side2 => exact HC1.out); rintro e w13 ⟨v309, rfl, ho0, hb⟩; refine ⟨_, rfl, ?_⟩; have n0_ := Aside0.mk (Kd.R_elder' (qq2 HO_6.out) (Kd.R_base ho0) hb); have n1_ := Aside0.mk (Kd.R_lower (Kd.R_new' ho0 (Kd.R_lt (qq2 HO_6.out))) (below_size qq1)); have n2_ := Aside0.mk (below_step qq1 hb); clear HO_6; clear HB; have HO_6 := n0_; have HO310 := n1_; have HB := n2_; clear n0_ n1_ n2_; (try clear hb); (try clear hb2); (try clear hk); (try clear hi); (try clear ho0); obtain ⟨Ao14, co14, eo14⟩ := Kd.R_slice HO310.out; subst eo14) | ((with_reducible refine gate_callee (f := 31) rfl ?_); refine goesL_ (some 36) rfl rfl Try.func31 (by kernel_rfl) rfl #[.int .i64 a0, .slice A1 l1.length c1, .slice Ao14 t307.length co14] rfl qq5 ?_; (with_reducible refine (impl_LoopError.calls k1 a0 _ _ l1 _ _ t307 t311 t312 _ ?side1 ?side2 ?side3 ?side4 A11.out).mono ?_); (case side1 => exact qq38); (case side2 => exact HC1.out); (case side3 => exact qq13 HO310.out); (case side4 => exact qq33 HO310.out); rintro e w15 ⟨rfl, hb⟩; refine ⟨_, rfl, ?_⟩; have n0_ := Aside0.mk (Kd.R_below (qq2 HO_6.out) hb); have n1_ := Aside0.mk (Kd.R_below (qq2 HO310.out) hb); have n2_ := Aside0.mk (below_step qq1 hb); clear HO_6; clear HO310; clear HB; have HO_6 := n0_; have HO310 := n1_; have HB := n2_; clear n0_ n1_ n2_; (try clear hb); (try clear hb2); (try clear hk); (try clear hi)) | ((with_reducible refine gate_builtin (b := .append) (xs := #[.tmp 39, .tmp 41]) rfl ?_); at_builtin; refine Kd.R_append (Kd.int .i64) (w0 := w) w.heap.size rfl (.tmp 39) (.tmp 41) 27 3 (.int .i64 0) 8 rfl Try.underlying27 info3 rfl (by decide) (by omega) u6 x6_1 t311 [.int .i64 t311] (fun k_ => some k_ ≠ (.slice Ao14 t307.length co14 : Value).ownBlock) (fun _ => False) rfl rfl ?aP (fun _ hk => hk.elim) ?aF ?aO ?aB ?aS ?aL ?_; (case aP => exact rfl); (case aB => exact qq1); (case aF => exact qq32 HO310.out); (case aO => exact (qq19 HO_6.out)); (case aS => exact (below_size qq1)); (case aL => have := LMc12.out; omega); intro v314 w16 ho hb hg hat; rw [← Ny313.out] at ho; have n0_ := Aside0.mk (Kd.R_after (ok := (fun _ => True)) (qq2 HO310.out) hg hat); have n1_ := Aside0.mk (hb); have n2_ := Aside0.mk (ho); clear HO310; clear HB; clear HO_6; have HO310 := n0_; have HB := n1_; have HO315 := n2_; clear n0_ n1_ n2_; clear ho hb hg hat))
              go_roundg k1
              case measure => have := HK1.out; omega
              case rel => exact ⟨(y313), (wrap64 (x20_1 + 1)), qq11, H', ⟨by have := HK1.out; omega⟩, ⟨qq17 HO315.out⟩, ⟨qq1⟩⟩
            · rw [if_neg c12] at H
              exact absurd H (by simp)
          · replace c10 := Bool.eq_false_iff.mpr c10
            subst c10
            have H1 : (impl_LoopErrors.l0 k1 a0 l1 x6_1 (l1.length : Int) (wrap64 (x20_1 + 1))) = some (r1, r2) := by rw [if_neg (show ¬ (false = true) by decide)] at H; exact H
            clear H
            have H := H1
            clear H1
            have H' := Aside0.mk H
            clear H
            go_wp2_with (first | ((with_reducible refine gate_callee (f := 30) rfl ?_); refine goesL_ (some 27) rfl rfl Try.func30 (by kernel_rfl) rfl #[.int .i64 a0, .slice A1 l1.length c1, .int .i64 x20_1] rfl qq5 ?_; (with_reducible refine (impl_LoopOf.calls k1 a0 _ _ l1 x20_1 t307 false _ ?side1 ?side2 A9.out).mono ?_); (case side1 => exact qq38); (case side2 => exact HC1.out); rintro e w17 ⟨v309, rfl, ho0, hb⟩; refine ⟨_, rfl, ?_⟩; have n0_ := Aside0.mk (Kd.R_elder' (qq2 HO_6.out) (Kd.R_base ho0) hb); have n1_ := Aside0.mk (Kd.R_lower (Kd.R_new' ho0 (Kd.R_lt (qq2 HO_6.out))) (below_size qq1)); have n2_ := Aside0.mk (below_step qq1 hb); clear HO_6; clear HB; have HO_6 := n0_; have HO310 := n1_; have HB := n2_; clear n0_ n1_ n2_; (try clear hb); (try clear hb2); (try clear hk); (try clear hi); (try clear ho0)))
            go_roundg k1
            case measure => have := HK1.out; omega
            case rel => exact ⟨(x6_1), (wrap64 (x20_1 + 1)), qq11, H', ⟨by have := HK1.out; omega⟩, ⟨qq17 HO_6.out⟩, ⟨qq1⟩⟩
        · rw [if_neg c8] at H
          have c8b0 : decide (x20_1 < (l1.length : Int)) = false := decide_eq_false c8
          clear c8
          simp only [Option.some.injEq, Prod.mk.injEq] at H
          obtain ⟨rfl, rfl⟩ := H
          go_wp2
          go_ret2
          exact ⟨_, qq12, qq2 HO_6.out, qq1⟩
  · replace c4 := Bool.eq_false_iff.mpr c4
    subst c4
    have H1 : (some ((([] : List Int)), false)) = some (r1, r2) := by rw [if_neg (show ¬ (false = true) by decide)] at H; exact H
    clear H
    have H := H1
    clear H1
    obtain ⟨y301, hy301⟩ : ∃ y_ : List Int, y_ = (([] : List Int)) := ⟨_, rfl⟩
    replace H : (some (y301, false)) = some (r1, r2) := by first | (rw [hy301]; with_reducible exact H) | (have H2_ := (Option.bind_some _ _).symm.trans H; rw [hy301]; with_reducible exact H2_) | (have H2_ := (Option.bind_some _ _).symm.trans H; with_reducible exact H2_) | with_reducible exact H | (rw [hy301]; exact H) | exact H
    have Ny301 := Aside0.mk hy301
    clear hy301
    simp only [Option.some.injEq, Prod.mk.injEq] at H
    obtain ⟨rfl, rfl⟩ := H
    go_enter Try.func15, Try.ntmps15
    go_wp2_with (first | ((with_reducible refine gate_callee (f := 13) rfl ?_); refine goesL_ (some 14) rfl rfl Try.func13 (by kernel_rfl) rfl #[.int .i64 a0, .slice A1 l1.length c1] rfl qq5 ?_; (with_reducible refine (impl_NetWhole.calls k a0 _ _ l1 false _ ?side1 ?side2 A3.out).mono ?_); (case side1 => exact qq14 HR1.out); (case side2 => exact HC1.out); rintro e w18 ⟨rfl, hb⟩; refine ⟨_, rfl, ?_⟩; have n0_ := Aside0.mk (below_step qq1 hb); clear HB; have HB := n0_; clear n0_; (try clear hb); (try clear hb2); (try clear hk); (try clear hi)) | ((with_reducible refine gate_dst (N := 16) rfl ?_); refine Kd.R_lit (Kd.int .i64) _ 3 ?hg (N := 16) ?hd (xs := ([] : List Int)) (inner := []) (ok := fun _ => True) (okp := fun _ => True) ?hr ?hp (fun _ hk => hk) trivial (Below.refl _ _) (Nat.le_refl _) (by simp) ?_; (case hd => rfl); (case hg => rfl); (case hr => exact qq18); (case hp => exact (Reps.none _ _)); intro v302 w19 ho20 hb hg_ hnew_; clear hg_ hnew_; (first | rw [← Ny301.out] at ho20 | (simp only [Int.reduceToNat] at ho20; rw [← Ny301.out] at ho20)); have n0_ := Aside0.mk (Kd.R_lower ho20 (below_size qq1)); have n1_ := Aside0.mk (below_step qq1 hb); clear HB; have HO303 := n0_; have HB := n1_; clear n0_ n1_; clear hb ho20))
    go_ret2
    exact ⟨_, qq12, qq2 HO303.out, qq1⟩

end Go.Proofs.Ytmcfhmflncghiaa.Q
namespace Go.Proofs.Ytmcfhmflncghiaa.Q
open Go.RowKit Go.Proofs.YtmcfhmflncghiaaW.PrintWords Go.Proofs.YtmcfhmflncghiaaW.PrintLast Go.Proofs.YtmcfhmflncghiaaW.PrintMore
attribute [local go_sem] max2_int min2_int max_two min_two max_three min_three max_four min_four
set_option linter.unusedVariables false
set_option linter.unusedSimpArgs false

/-! ### impl_LoopCloses: function 8 -/
def impl_LoopCloses.l0 : Nat → List Int → Int → Int → Option (Bool)
  | 0, _, _, _ => none
  | k + 1, x17, x18, x19 => if x19 < x18 then (if 0 ≤ x19 then (if x19 < (x17.length : Int) then (if (rd x17 x19) = 0 then (impl_LoopCloses.l0 k x17 x18 (wrap64 (x19 + 1))) else (some false)) else (none)) else (none)) else (some true)
def impl_LoopCloses.f (k : Nat) (a0 : Int) (l1 : List (S32)) : Option (Bool) := (impl_LoopErrors.f k a0 l1).bind fun bt316 => (if bt316.2 = true then (impl_LoopCloses.l0 k bt316.1 (bt316.1.length : Int) 0) else (some false))
set_option maxHeartbeats 8000000 in
set_option maxRecDepth 100000 in
theorem impl_LoopCloses.calls (k : Nat) (a0 : Int) (A1 : Option Addr) (c1 : Nat) (l1 : List (S32)) (r : Bool) (w : World) (hr1 : Kd.C k32 w A1 l1.length l1) (hc1 : l1.length ≤ c1) (h : impl_LoopCloses.f k a0 l1 = some r) :
    Calls Try.prog 8 #[.int .i64 a0, .slice A1 l1.length c1] w fun e w' => e = .returned (.bool r) ∧ Below w.heap.size w w' := by
  have HR1 := Aside0.mk hr1
  have HC1 := Aside0.mk hc1
  clear hr1 hc1
  have HB := Aside0.mk (Below.refl w.heap.size w)
  have H : ((impl_LoopErrors.f k a0 l1).bind fun bt316 => (if bt316.2 = true then (impl_LoopCloses.l0 k bt316.1 (bt316.1.length : Int) 0) else (some false))) = some r := h
  clear h
  replace H := Option.bind_eq_some_iff.mp H
  obtain ⟨⟨t316, t317⟩, A30, H⟩ := H
  replace H : (if t317 = true then (impl_LoopCloses.l0 k t316 (t316.length : Int) 0) else (some false)) = some r := H
  have A3 := Aside0.mk A30
  clear A30
  by_cases c4 : t317 = true
  · subst c4
    have H1 : (impl_LoopCloses.l0 k t316 (t316.length : Int) 0) = some r := by rw [if_pos rfl] at H; exact H
    clear H
    have H := H1
    clear H1
    have H' := Aside0.mk H
    clear H
    go_enter Try.func8, Try.ntmps8
    go_wp2_with (first | ((with_reducible refine gate_callee (f := 15) rfl ?_); refine goesL_ (some 12) rfl rfl Try.func15 (by kernel_rfl) rfl #[.int .i64 a0, .slice A1 l1.length c1] rfl qq5 ?_; (with_reducible refine (impl_LoopErrors.calls k a0 _ _ l1 t316 true _ ?side1 ?side2 A3.out).mono ?_); (case side1 => exact qq14 HR1.out); (case side2 => exact HC1.out); rintro e w5 ⟨v318, rfl, ho0, hb⟩; refine ⟨_, rfl, ?_⟩; have n0_ := Aside0.mk (Kd.R_lower ho0 (below_size qq1)); have n1_ := Aside0.mk (below_step qq1 hb); clear HB; have HO319 := n0_; have HB := n1_; clear n0_ n1_; (try clear hb); (try clear hb2); (try clear hk); (try clear hi); (try clear ho0); obtain ⟨Ao6, co6, eo6⟩ := Kd.R_slice HO319.out; subst eo6))
    go_loopg [19] k (fun kq v19 w' => ∃ (x19_1 : Int), v19 = .int .i64 x19_1 ∧ Aside0 (impl_LoopCloses.l0 kq t316 (t316.length : Int) x19_1 = some r) ∧ Aside0 (kq ≤ k) ∧ Aside0 (Kd.R (Kd.int .i64) 3 w' w.heap.size (fun _ => True) (.slice Ao6 t316.length co6) t316) ∧ Aside0 (Below w.heap.size w w'))
    case atStart => exact ⟨(0), qq11, H', ⟨Nat.le_refl _⟩, ⟨qq2 HO319.out⟩, ⟨qq1⟩⟩
    case round =>
      clear H'
      try clear c1
      try clear p2
      try clear c4
      obtain ⟨x19_1, rfl, HA, HK1, HO_17, HB⟩ := hrel
      cases gk with
      | zero => exact absurd HA.out (by simp [impl_LoopCloses.l0])
      | succ k1 =>
        have H := HA.out
        clear HA
        simp only [impl_LoopCloses.l0] at H
        by_cases c7 : x19_1 < (t316.length : Int)
        · rw [if_pos c7] at H
          have c7b0 : decide (x19_1 < (t316.length : Int)) = true := decide_eq_true c7
          clear c7
          by_cases c8 : 0 ≤ x19_1
          · rw [if_pos c8] at H
            have c8b0 : decide (0 ≤ x19_1) = true := decide_eq_true c8
            clear c8
            by_cases c9 : x19_1 < (t316.length : Int)
            · rw [if_pos c9] at H
              have c9b0 : decide (x19_1 < (t316.length : Int)) = true := decide_eq_true c9
              clear c9
              by_cases c10 : (rd t316 x19_1) = 0
              · rw [if_pos c10] at H
                have c10b0 : ((rd t316 x19_1) == 0) = true := beq_iff_eq.mpr c10
                have c10b1 : ((rd t316 x19_1) != 0) = false := bne_eq_false_iff_eq.mpr c10
                clear c10
                have H' := Aside0.mk H
                clear H
                have p320 : 0 ≤ (x19_1 : Int) := of_decide_eq_true qq7
                have q320 : x19_1 < (t316.length : Int) := of_decide_eq_true qq7
                obtain ⟨ad320, e320, hx320_0⟩ := Kd.at_int (Kd.R_reads' HO_17.out).2.2 x19_1 p320 q320
                cases e320
                replace p320 := eq_true p320
                replace q320 := eq_true q320
                go_wp2
                go_roundg k1
                case measure => have := HK1.out; omega
                case rel => exact ⟨(wrap64 (x19_1 + 1)), qq11, H', ⟨by have := HK1.out; omega⟩, ⟨qq2 HO_17.out⟩, ⟨qq1⟩⟩
              · rw [if_neg c10] at H
                have c10b0 : ((rd t316 x19_1) == 0) = false := beq_eq_false_iff_ne.mpr c10
                have c10b1 : ((rd t316 x19_1) != 0) = true := bne_iff_ne.mpr c10
                obtain rfl := Option.some.inj H
                have p320 : 0 ≤ (x19_1 : Int) := of_decide_eq_true qq7
                have q320 : x19_1 < (t316.length : Int) := of_decide_eq_true qq7
                obtain ⟨ad320, e320, hx320_0⟩ := Kd.at_int (Kd.R_reads' HO_17.out).2.2 x19_1 p320 q320
                cases e320
                replace p320 := eq_true p320
                replace q320 := eq_true q320
                go_wp2
                go_ret
                exact ⟨qq12, qq1⟩
            · rw [if_neg c9] at H
              exact absurd H (by simp)
          · rw [if_neg c8] at H
            exact absurd H (by simp)
        · rw [if_neg c7] at H
          have c7b0 : decide (x19_1 < (t316.length : Int)) = false := decide_eq_false c7
          clear c7
          obtain rfl := Option.some.inj H
          go_wp2
          go_ret
          exact ⟨qq12, qq1⟩
  · replace c4 := Bool.eq_false_iff.mpr c4
    subst c4
    have H1 : (some false) = some r := by rw [if_neg (show ¬ (false = true) by decide)] at H; exact H
    clear H
    have H := H1
    clear H1
    obtain rfl := Option.some.inj H
    go_enter Try.func8, Try.ntmps8
    go_wp2_with (first | ((with_reducible refine gate_callee (f := 15) rfl ?_); refine goesL_ (some 12) rfl rfl Try.func15 (by kernel_rfl) rfl #[.int .i64 a0, .slice A1 l1.length c1] rfl qq5 ?_; (with_reducible refine (impl_LoopErrors.calls k a0 _ _ l1 t316 false _ ?side1 ?side2 A3.out).mono ?_); (case side1 => exact qq14 HR1.out); (case side2 => exact HC1.out); rintro e w11 ⟨v318, rfl, ho0, hb⟩; refine ⟨_, rfl, ?_⟩; have n0_ := Aside0.mk (Kd.R_lower ho0 (below_size qq1)); have n1_ := Aside0.mk (below_step qq1 hb); clear HB; have HO319 := n0_; have HB := n1_; clear n0_ n1_; (try clear hb); (try clear hb2); (try clear hk); (try clear hi); (try clear ho0)))
    go_ret
    exact ⟨qq12, qq1⟩

end Go.Proofs.Ytmcfhmflncghiaa.Q
namespace Go.Proofs.Ytmcfhmflncghiaa.Q
open Go.RowKit Go.Proofs.YtmcfhmflncghiaaW.PrintWords Go.Proofs.YtmcfhmflncghiaaW.PrintLast Go.Proofs.YtmcfhmflncghiaaW.PrintMore
attribute [local go_sem] max2_int min2_int max_two min_two max_three min_three max_four min_four
set_option linter.unusedVariables false
set_option linter.unusedSimpArgs false

/-- A state of type 61 at block g of W; what its slices lead to came in by w0. -/
def IsS61 (w0 W : World) (g : Nat) (f0 : List Int) (f1 : Int) : Prop := ∃ A0 c0, W.heap[g]? = some (.cells #[.slice A0 f0.length c0, .int .i64 f1] 61 (0, 0)) ∧ w0.heap.size ≤ g ∧ Kd.C (Kd.int .u8) w0 A0 f0.length f0
theorem IsS61.grown {w0 W : World} {g : Nat} {f0 : List Int} {f1 : Int} {W1 : World} {row : Option Nat} (h : IsS61 w0 W g f0 f1) (hw : W.grownBy W1 row) (hne : some g ≠ row) : IsS61 w0 W1 g f0 f1 := by
  obtain ⟨A0, c0, hb, hg, hr0⟩ := h
  exact ⟨A0, c0, blk_grown hb hw hne, hg, hr0⟩
theorem IsS61.below {w0 W : World} {g : Nat} {f0 : List Int} {f1 : Int} {W1 : World} (h : IsS61 w0 W g f0 f1) (hw : Below W.heap.size W W1) : IsS61 w0 W1 g f0 f1 := h.grown (grown_of_below hw none) (by simp)
theorem IsS61.alloc {w0 W : World} {g : Nat} {f0 : List Int} {f1 : Int} (h : IsS61 w0 W g f0 f1) (o : Obj) : IsS61 w0 (W.alloc o) g f0 f1 := h.below (below_alloc (Below.refl _ _) o)
theorem IsS61.drewN {w0 W : World} {g : Nat} {f0 : List Int} {f1 : Int} (h : IsS61 w0 W g f0 f1) (m : Nat) : IsS61 w0 (W.drewN m) g f0 f1 := h
theorem IsS61.drew {w0 W : World} {g : Nat} {f0 : List Int} {f1 : Int} (h : IsS61 w0 W g f0 f1) : IsS61 w0 W.drew g f0 f1 := h
theorem IsS61.at_ {w0 W : World} {g : Nat} {f0 : List Int} {f1 : Int} {w' : World} {m : Nat} (hq : W.drewN m = w') (h : IsS61 w0 W g f0 f1) : IsS61 w0 w' g f0 f1 := by subst hq; exact IsS61.drewN h m
theorem IsS61.apart {w0 W : World} {g : Nat} {f0 : List Int} {f1 : Int} {α : Type} {d : Kd α} {e : Nat} {base : Nat} {ok : Nat → Prop} {v : Value} {xs : List α} (h : IsS61 w0 W g f0 f1) (ho : d.R e W base ok v xs) (ht : ∀ q, q ∈ e :: d.E → q ≠ 61) : d.R e W base (fun k => ok k ∧ k ≠ g) v xs := by
  obtain ⟨A0, c0, hb, hg, hr0⟩ := h
  exact Kd.R_types ho hb ht
theorem IsS61.own_ne {w0 W : World} {g : Nat} {f0 : List Int} {f1 : Int} {α : Type} {d : Kd α} {e : Nat} {base : Nat} {ok : Nat → Prop} {v : Value} {xs : List α} (h : IsS61 w0 W g f0 f1) (ho : d.R e W base ok v xs) (ht : e ≠ 61) : some g ≠ v.ownBlock := by
  obtain ⟨A0, c0, hb, hg, hr0⟩ := h
  exact Kd.R_ne ho hb ht
theorem IsS61.ge {w0 W : World} {g : Nat} {f0 : List Int} {f1 : Int} (h : IsS61 w0 W g f0 f1) : w0.heap.size ≤ g := by
  obtain ⟨A0, c0, hb, hg, hr0⟩ := h
  exact hg
theorem cellS61_0 {W : World} {g : Nat} {A0 : Option Addr} {c0 : Nat} {f0 : List Int} {f1 : Int} (h : W.heap[g]? = some (.cells #[.slice A0 f0.length c0, .int .i64 f1] 61 (0, 0))) : W.cell? ⟨g, 0, none⟩ = some (.slice A0 f0.length c0) := (blk_cell h 0).trans rfl
theorem cellS61_1 {W : World} {g : Nat} {A0 : Option Addr} {c0 : Nat} {f0 : List Int} {f1 : Int} (h : W.heap[g]? = some (.cells #[.slice A0 f0.length c0, .int .i64 f1] 61 (0, 0))) : W.cell? ⟨g, 1, none⟩ = some (.int .i64 f1) := (blk_cell h 1).trans rfl
theorem IsS61.set_1 {w0 W : World} {g : Nat} {f0 : List Int} {f1 : Int} (h : IsS61 w0 W g f0 f1) (x : Int) : IsS61 w0 (W.setCell ⟨g, 1, none⟩ (.int .i64 x)) g f0 x := by
  obtain ⟨A0, c0, hb, hg, hr0⟩ := h
  exact ⟨A0, c0, by simpa using blk_set hb 1 (.int .i64 x), hg, hr0⟩
/-! ### spec_l6Rd_pick: function 36 -/
def spec_l6Rd_pick.j0 : Nat → Int → Bool → List Int → Int → Option (Int × Int)
  | 0, _, _, _, _ => none
  | k + 1, x1, x24, x1000, x1001 => if x24 = true then (some (0, x1001)) else (if (wrap64 (x1001 - 1)) < (x1000.length : Int) then (if 0 ≤ (wrap64 (x1001 - 1)) then (if x1 = 0 then (none) else (some (Int.tmod (wrap64 (rd x1000 (wrap64 (x1001 - 1)))) x1, x1001))) else (none)) else (if (x1000.length : Int) = 0 then (none) else (if 0 ≤ (Int.tmod (wrap64 (x1001 - 1)) (x1000.length : Int)) then (if (Int.tmod (wrap64 (x1001 - 1)) (x1000.length : Int)) < (x1000.length : Int) then (if 0 ≤ (Int.tmod (wrap64 ((wrap64 ((wrap64 (x1001 - 1)) * 7)) + 3)) (x1000.length : Int)) then (if (Int.tmod (wrap64 ((wrap64 ((wrap64 (x1001 - 1)) * 7)) + 3)) (x1000.length : Int)) < (x1000.length : Int) then (if x1 = 0 then (none) else (some (Int.tmod (Go.bits .xor .i64 (wrap64 ((wrap64 ((wrap64 ((wrap64 ((wrap64 (rd x1000 (Int.tmod (wrap64 (x1001 - 1)) (x1000.length : Int)))) * 131)) + (wrap64 ((wrap64 (rd x1000 (Int.tmod (wrap64 ((wrap64 ((wrap64 (x1001 - 1)) * 7)) + 3)) (x1000.length : Int)))) * 1117)))) + (wrap64 ((wrap64 (x1001 - 1)) * 29)))) + (wrap64 ((wrap64 (Int.tdiv (wrap64 (x1001 - 1)) (x1000.length : Int))) * 53)))) (wrap64 (Int.tdiv (wrap64 ((wrap64 ((wrap64 ((wrap64 ((wrap64 (rd x1000 (Int.tmod (wrap64 (x1001 - 1)) (x1000.length : Int)))) * 131)) + (wrap64 ((wrap64 (rd x1000 (Int.tmod (wrap64 ((wrap64 ((wrap64 (x1001 - 1)) * 7)) + 3)) (x1000.length : Int)))) * 1117)))) + (wrap64 ((wrap64 (x1001 - 1)) * 29)))) + (wrap64 ((wrap64 (Int.tdiv (wrap64 (x1001 - 1)) (x1000.length : Int))) * 53)))) 64))) x1, x1001))) else (none)) else (none)) else (none)) else (none))))
def spec_l6Rd_pick.f (k : Nat) (s0_0 : List Int) (s0_1 : Int) (a1 : Int) : Option (Int × Int) := if a1 < 1 then (spec_l6Rd_pick.j0 k a1 true s0_0 (wrap64 (s0_1 + 1))) else (spec_l6Rd_pick.j0 k a1 ((s0_0.length : Int) == 0) s0_0 (wrap64 (s0_1 + 1)))
set_option maxHeartbeats 8000000 in
set_option maxRecDepth 100000 in
theorem spec_l6Rd_pick.calls (k : Nat) (g : Nat) (s0_0 : List Int) (s0_1 : Int) (a1 : Int) (r1 : Int) (r2 : Int) (w0 w : World) (hI : IsS61 w0 w g s0_0 s0_1) (hB : Below w0.heap.size w0 w) (h : spec_l6Rd_pick.f k s0_0 s0_1 a1 = some (r1, r2)) :
    Calls Try.prog 36 #[.pointer (some ⟨g, 0, none⟩), .int .i64 a1] w fun e w' => e = .returned (.int .i64 r1) ∧ IsS61 w0 w' g s0_0 r2 ∧ Below w0.heap.size w0 w' ∧ KeepBut w w' g none := by
  have HI0 := Aside0.mk hI
  have HK := Aside0.mk (KeepBut.refl w g none)
  have HL := Aside0.mk hB.size
  clear hI
  have HW0 := Aside0.mk hB.size
  have HB := Aside0.mk hB
  clear hB
  have H : (if a1 < 1 then (spec_l6Rd_pick.j0 k a1 true s0_0 (wrap64 (s0_1 + 1))) else (spec_l6Rd_pick.j0 k a1 ((s0_0.length : Int) == 0) s0_0 (wrap64 (s0_1 + 1)))) = some (r1, r2) := h
  clear h
  have HC3 := Aside0.mk H
  clear H
  obtain ⟨ASz4_0, cSz4_0, HGz4, hgz4, HSz4_0⟩ := HI0.out
  have hcz4_0 := cellS61_0 HGz4
  have hcz4_1 := cellS61_1 HGz4
  have hfz4_1 := blk_frozen HGz4 1
  clear HGz4 hgz4
  go_enter Try.func36, Try.ntmps36
  go_upto_region 2 with (fail)
  repeat (go_quiet (fail); go_upto_region 2 with (fail))
  go_cut [24] (fun v24 wc => ∃ (kq : Nat) (x24_2 : Bool), v24 = .bool x24_2 ∧ Aside0 (spec_l6Rd_pick.j0 kq a1 x24_2 s0_0 (wrap64 (s0_1 + 1)) = some (r1, r2)) ∧ Aside0 (kq ≤ k) ∧ Aside0 (IsS61 w0 wc g s0_0 (wrap64 (s0_1 + 1))) ∧ Aside0 (KeepBut w wc g none) ∧ Aside0 (Below w0.heap.size w0 wc))
  case first =>
    have H := HC3.out
    clear HC3
    by_cases c5 : a1 < 1
    · rw [if_pos c5] at H
      have c5b0 : decide (a1 < 1) = true := decide_eq_true c5
      clear c5
      (first | rw [c5b0] | (simp only [i64_w, i32_w]; rw [c5b0]) | skip)
      have H' := Aside0.mk H
      clear H
      go_wp2
      repeat (go_quiet (fail); try go_wp2)
      go_meet
      case rel => exact ⟨_, (true), qq11, H', ⟨qq24⟩, ⟨qq8 HI0.out⟩, ⟨qq10⟩, ⟨qq6 HB.out HI0.out⟩⟩
    · rw [if_neg c5] at H
      have c5b0 : decide (a1 < 1) = false := decide_eq_false c5
      clear c5
      (first | rw [c5b0] | (simp only [i64_w, i32_w]; rw [c5b0]) | skip)
      have H' := Aside0.mk H
      clear H
      obtain ⟨ASz6_0, cSz6_0, HGz6, hgz6, HSz6_0⟩ := HI0.out
      have hcz6_0 := cellS61_0 HGz6
      have hcz6_1 := cellS61_1 HGz6
      have hfz6_1 := blk_frozen HGz6 1
      clear HGz6 hgz6
      go_wp2
      repeat (go_quiet (fail); try go_wp2)
      go_meet
      case rel => exact ⟨_, (((s0_0.length : Int) == 0)), qq11, H', ⟨qq24⟩, ⟨qq8 HI0.out⟩, ⟨qq10⟩, ⟨qq6 HB.out HI0.out⟩⟩
  case rest =>
    clear HC3
    try clear p2
    try clear c3
    try clear c5
    try clear c5b0
    try clear p6
    try clear hcz4_0
    try clear hcz4_1
    try clear hcz6_0
    try clear hcz6_1
    try clear hfz4_1
    try clear hfz6_1
    obtain ⟨kq, x24_2, rfl, HA, HJ2, HI0, HK, HB⟩ := hcut
    cases kq with
    | zero => exact absurd HA.out (by simp [spec_l6Rd_pick.j0])
    | succ kj2 =>
      have H := HA.out
      clear HA
      simp only [spec_l6Rd_pick.j0] at H
      by_cases c7 : x24_2 = true
      · subst c7
        have H1 : (some (0, (wrap64 (s0_1 + 1)))) = some (r1, r2) := by rw [if_pos rfl] at H; exact H
        clear H
        have H := H1
        clear H1
        simp only [Option.some.injEq, Prod.mk.injEq] at H
        obtain ⟨rfl, rfl⟩ := H
        go_wp2
        repeat (go_quiet (fail); try go_wp2)
        go_ret
        exact ⟨qq12, qq8 HI0.out, qq6 HB.out HI0.out, qq10⟩
      · replace c7 := Bool.eq_false_iff.mpr c7
        subst c7
        have H1 : (if (wrap64 ((wrap64 (s0_1 + 1)) - 1)) < (s0_0.length : Int) then (if 0 ≤ (wrap64 ((wrap64 (s0_1 + 1)) - 1)) then (if a1 = 0 then (none) else (some (Int.tmod (wrap64 (rd s0_0 (wrap64 ((wrap64 (s0_1 + 1)) - 1)))) a1, (wrap64 (s0_1 + 1))))) else (none)) else (if (s0_0.length : Int) = 0 then (none) else (if 0 ≤ (Int.tmod (wrap64 ((wrap64 (s0_1 + 1)) - 1)) (s0_0.length : Int)) then (if (Int.tmod (wrap64 ((wrap64 (s0_1 + 1)) - 1)) (s0_0.length : Int)) < (s0_0.length : Int) then (if 0 ≤ (Int.tmod (wrap64 ((wrap64 ((wrap64 ((wrap64 (s0_1 + 1)) - 1)) * 7)) + 3)) (s0_0.length : Int)) then (if (Int.tmod (wrap64 ((wrap64 ((wrap64 ((wrap64 (s0_1 + 1)) - 1)) * 7)) + 3)) (s0_0.length : Int)) < (s0_0.length : Int) then (if a1 = 0 then (none) else (some (Int.tmod (Go.bits .xor .i64 (wrap64 ((wrap64 ((wrap64 ((wrap64 ((wrap64 (rd s0_0 (Int.tmod (wrap64 ((wrap64 (s0_1 + 1)) - 1)) (s0_0.length : Int)))) * 131)) + (wrap64 ((wrap64 (rd s0_0 (Int.tmod (wrap64 ((wrap64 ((wrap64 ((wrap64 (s0_1 + 1)) - 1)) * 7)) + 3)) (s0_0.length : Int)))) * 1117)))) + (wrap64 ((wrap64 ((wrap64 (s0_1 + 1)) - 1)) * 29)))) + (wrap64 ((wrap64 (Int.tdiv (wrap64 ((wrap64 (s0_1 + 1)) - 1)) (s0_0.length : Int))) * 53)))) (wrap64 (Int.tdiv (wrap64 ((wrap64 ((wrap64 ((wrap64 ((wrap64 (rd s0_0 (Int.tmod (wrap64 ((wrap64 (s0_1 + 1)) - 1)) (s0_0.length : Int)))) * 131)) + (wrap64 ((wrap64 (rd s0_0 (Int.tmod (wrap64 ((wrap64 ((wrap64 ((wrap64 (s0_1 + 1)) - 1)) * 7)) + 3)) (s0_0.length : Int)))) * 1117)))) + (wrap64 ((wrap64 ((wrap64 (s0_1 + 1)) - 1)) * 29)))) + (wrap64 ((wrap64 (Int.tdiv (wrap64 ((wrap64 (s0_1 + 1)) - 1)) (s0_0.length : Int))) * 53)))) 64))) a1, (wrap64 (s0_1 + 1))))) else (none)) else (none)) else (none)) else (none)))) = some (r1, r2) := by rw [if_neg (show ¬ (false = true) by decide)] at H; exact H
        clear H
        have H := H1
        clear H1
        by_cases c8 : (wrap64 ((wrap64 (s0_1 + 1)) - 1)) < (s0_0.length : Int)
        · rw [if_pos c8] at H
          have c8b0 : decide ((wrap64 ((wrap64 (s0_1 + 1)) - 1)) < (s0_0.length : Int)) = true := decide_eq_true c8
          clear c8
          obtain ⟨ji9, hji9⟩ : ∃ j_ : Int, (wrap64 ((wrap64 (s0_1 + 1)) - 1)) = j_ := ⟨_, rfl⟩
          replace H : (if 0 ≤ (ji9) then (if a1 = 0 then (none) else (some (Int.tmod (wrap64 (rd s0_0 (ji9))) a1, (wrap64 (s0_1 + 1))))) else (none)) = some (r1, r2) := by first | (rw [hji9] at H; exact H) | (simp only [hji9] at H ⊢; exact H)
          (try rw [hji9] at c8b0)
          have hji9w : (IntKind.i64.wrap ((wrap64 (s0_1 + 1)) - 1)) = ji9 := (i64_w _).trans hji9
          by_cases c10 : 0 ≤ (ji9)
          · rw [if_pos c10] at H
            have c10b0 : decide (0 ≤ (ji9)) = true := decide_eq_true c10
            clear c10
            by_cases c11 : a1 = 0
            · rw [if_pos c11] at H
              exact absurd H (by simp)
            · rw [if_neg c11] at H
              have c11b0 : (a1 == 0) = false := beq_eq_false_iff_ne.mpr c11
              have c11b1 : (a1 != 0) = true := bne_iff_ne.mpr c11
              simp only [Option.some.injEq, Prod.mk.injEq] at H
              obtain ⟨rfl, rfl⟩ := H
              obtain ⟨ASz12_0, cSz12_0, HGz12, hgz12, HSz12_0⟩ := HI0.out
              have hcz12_0 := cellS61_0 HGz12
              have hcz12_1 := cellS61_1 HGz12
              have hfz12_1 := blk_frozen HGz12 1
              clear HGz12 hgz12
              have p101 : 0 ≤ ((ji9) : Int) := of_decide_eq_true qq7
              have q101 : (ji9) < (s0_0.length : Int) := of_decide_eq_true qq7
              obtain ⟨ad101, e101, hx101_0⟩ := Kd.at_int HSz12_0 (ji9) p101 q101
              cases e101
              replace hx101_0 := pw_cell_below HB.out hx101_0
              replace p101 := eq_true p101
              replace q101 := eq_true q101
              go_wp2
              repeat (go_quiet (fail); try go_wp2)
              go_ret
              exact ⟨by first | rfl | (simp [errW_none, errW_some] <;> rfl) | (simp only [← hji9]; first | rfl | (simp [errW_none, errW_some] <;> rfl)) | (simp [*, errW_none, errW_some] <;> rfl), qq8 HI0.out, qq6 HB.out HI0.out, qq10⟩
          · rw [if_neg c10] at H
            exact absurd H (by simp)
        · rw [if_neg c8] at H
          have c8b0 : decide ((wrap64 ((wrap64 (s0_1 + 1)) - 1)) < (s0_0.length : Int)) = false := decide_eq_false c8
          clear c8
          by_cases c13 : (s0_0.length : Int) = 0
          · rw [if_pos c13] at H
            exact absurd H (by simp)
          · rw [if_neg c13] at H
            have c13b0 : ((s0_0.length : Int) == 0) = false := beq_eq_false_iff_ne.mpr c13
            have c13b1 : ((s0_0.length : Int) != 0) = true := bne_iff_ne.mpr c13
            have c13b2 : ¬ (s0_0 = []) := fun h_ => c13 (by rw [h_]; rfl)
            obtain ⟨ji14, hji14⟩ : ∃ j_ : Int, (Int.tmod (wrap64 ((wrap64 (s0_1 + 1)) - 1)) (s0_0.length : Int)) = j_ := ⟨_, rfl⟩
            replace H : (if 0 ≤ (ji14) then (if (ji14) < (s0_0.length : Int) then (if 0 ≤ (Int.tmod (wrap64 ((wrap64 ((wrap64 ((wrap64 (s0_1 + 1)) - 1)) * 7)) + 3)) (s0_0.length : Int)) then (if (Int.tmod (wrap64 ((wrap64 ((wrap64 ((wrap64 (s0_1 + 1)) - 1)) * 7)) + 3)) (s0_0.length : Int)) < (s0_0.length : Int) then (if a1 = 0 then (none) else (some (Int.tmod (Go.bits .xor .i64 (wrap64 ((wrap64 ((wrap64 ((wrap64 ((wrap64 (rd s0_0 (ji14))) * 131)) + (wrap64 ((wrap64 (rd s0_0 (Int.tmod (wrap64 ((wrap64 ((wrap64 ((wrap64 (s0_1 + 1)) - 1)) * 7)) + 3)) (s0_0.length : Int)))) * 1117)))) + (wrap64 ((wrap64 ((wrap64 (s0_1 + 1)) - 1)) * 29)))) + (wrap64 ((wrap64 (Int.tdiv (wrap64 ((wrap64 (s0_1 + 1)) - 1)) (s0_0.length : Int))) * 53)))) (wrap64 (Int.tdiv (wrap64 ((wrap64 ((wrap64 ((wrap64 ((wrap64 (rd s0_0 (ji14))) * 131)) + (wrap64 ((wrap64 (rd s0_0 (Int.tmod (wrap64 ((wrap64 ((wrap64 ((wrap64 (s0_1 + 1)) - 1)) * 7)) + 3)) (s0_0.length : Int)))) * 1117)))) + (wrap64 ((wrap64 ((wrap64 (s0_1 + 1)) - 1)) * 29)))) + (wrap64 ((wrap64 (Int.tdiv (wrap64 ((wrap64 (s0_1 + 1)) - 1)) (s0_0.length : Int))) * 53)))) 64))) a1, (wrap64 (s0_1 + 1))))) else (none)) else (none)) else (none)) else (none)) = some (r1, r2) := by first | (rw [hji14] at H; exact H) | (simp only [hji14] at H ⊢; exact H)
            by_cases c15 : 0 ≤ (ji14)
            · rw [if_pos c15] at H
              have c15b0 : decide (0 ≤ (ji14)) = true := decide_eq_true c15
              clear c15
              by_cases c16 : (ji14) < (s0_0.length : Int)
              · rw [if_pos c16] at H
                have c16b0 : decide ((ji14) < (s0_0.length : Int)) = true := decide_eq_true c16
                clear c16
                obtain ⟨ji17, hji17⟩ : ∃ j_ : Int, (Int.tmod (wrap64 ((wrap64 ((wrap64 ((wrap64 (s0_1 + 1)) - 1)) * 7)) + 3)) (s0_0.length : Int)) = j_ := ⟨_, rfl⟩
                replace H : (if 0 ≤ (ji17) then (if (ji17) < (s0_0.length : Int) then (if a1 = 0 then (none) else (some (Int.tmod (Go.bits .xor .i64 (wrap64 ((wrap64 ((wrap64 ((wrap64 ((wrap64 (rd s0_0 (ji14))) * 131)) + (wrap64 ((wrap64 (rd s0_0 (ji17))) * 1117)))) + (wrap64 ((wrap64 ((wrap64 (s0_1 + 1)) - 1)) * 29)))) + (wrap64 ((wrap64 (Int.tdiv (wrap64 ((wrap64 (s0_1 + 1)) - 1)) (s0_0.length : Int))) * 53)))) (wrap64 (Int.tdiv (wrap64 ((wrap64 ((wrap64 ((wrap64 ((wrap64 (rd s0_0 (ji14))) * 131)) + (wrap64 ((wrap64 (rd s0_0 (ji17))) * 1117)))) + (wrap64 ((wrap64 ((wrap64 (s0_1 + 1)) - 1)) * 29)))) + (wrap64 ((wrap64 (Int.tdiv (wrap64 ((wrap64 (s0_1 + 1)) - 1)) (s0_0.length : Int))) * 53)))) 64))) a1, (wrap64 (s0_1 + 1))))) else (none)) else (none)) = some (r1, r2) := by first | (rw [hji17] at H; exact H) | (simp only [hji17] at H ⊢; exact H)
                by_cases c18 : 0 ≤ (ji17)
                · rw [if_pos c18] at H
                  have c18b0 : decide (0 ≤ (ji17)) = true := decide_eq_true c18
                  clear c18
                  by_cases c19 : (ji17) < (s0_0.length : Int)
                  · rw [if_pos c19] at H
                    have c19b0 : decide ((ji17) < (s0_0.length : Int)) = true := decide_eq_true c19
                    clear c19
                    by_cases c20 : a1 = 0
                    · rw [if_pos c20] at H
                      exact absurd H (by simp)
                    · rw [if_neg c20] at H
                      have c20b0 : (a1 == 0) = false := beq_eq_false_iff_ne.mpr c20
                      have c20b1 : (a1 != 0) = true := bne_iff_ne.mpr c20
                      simp only [Option.some.injEq, Prod.mk.injEq] at H
                      obtain ⟨rfl, rfl⟩ := H
                      obtain ⟨ASz21_0, cSz21_0, HGz21, hgz21, HSz21_0⟩ := HI0.out
                      have hcz21_0 := cellS61_0 HGz21
                      have hcz21_1 := cellS61_1 HGz21
                      have hfz21_1 := blk_frozen HGz21 1
                      clear HGz21 hgz21
                      have p102 : 0 ≤ ((ji14) : Int) := of_decide_eq_true qq7
                      have q102 : (ji14) < (s0_0.length : Int) := of_decide_eq_true qq7
                      obtain ⟨ad102, e102, hx102_0⟩ := Kd.at_int HSz21_0 (ji14) p102 q102
                      cases e102
                      replace hx102_0 := pw_cell_below HB.out hx102_0
                      replace p102 := eq_true p102
                      replace q102 := eq_true q102
                      have p103 : 0 ≤ ((ji17) : Int) := of_decide_eq_true qq7
                      have q103 : (ji17) < (s0_0.length : Int) := of_decide_eq_true qq7
                      obtain ⟨ad103, e103, hx103_0⟩ := Kd.at_int HSz21_0 (ji17) p103 q103
                      obtain rfl : ad102 = ad103 := (by injection e103)
                      replace hx103_0 := pw_cell_below HB.out hx103_0
                      replace p103 := eq_true p103
                      replace q103 := eq_true q103
                      go_wp2
                      repeat (go_quiet (fail); try go_wp2)
                      go_ret
                      exact ⟨by first | rfl | (simp [errW_none, errW_some] <;> rfl) | (simp only [← hji14, ← hji17]; first | rfl | (simp [errW_none, errW_some] <;> rfl)) | (simp [*, errW_none, errW_some] <;> rfl), qq8 HI0.out, qq6 HB.out HI0.out, qq10⟩
                  · rw [if_neg c19] at H
                    exact absurd H (by simp)
                · rw [if_neg c18] at H
                  exact absurd H (by simp)
              · rw [if_neg c16] at H
                exact absurd H (by simp)
            · rw [if_neg c15] at H
              exact absurd H (by simp)

end Go.Proofs.Ytmcfhmflncghiaa.Q
namespace Go.Proofs.Ytmcfhmflncghiaa.Q
open Go.RowKit Go.Proofs.YtmcfhmflncghiaaW.PrintWords Go.Proofs.YtmcfhmflncghiaaW.PrintLast Go.Proofs.YtmcfhmflncghiaaW.PrintMore
attribute [local go_sem] max2_int min2_int max_two min_two max_three min_three max_four min_four
set_option linter.unusedVariables false
set_option linter.unusedSimpArgs false

/-! ### spec_l6Open: function 25 -/
def spec_l6Open.f (l0 : List Int) : Option (List Int × Int) := if (l0.length : Int) > 2000 then (if 2000 ≤ (l0.length : Int) then (some (l0.take 2000, 0)) else (none)) else (some (l0, 0))
set_option maxHeartbeats 8000000 in
set_option maxRecDepth 100000 in
theorem spec_l6Open.calls (A0 : Option Addr) (c0 : Nat) (l0 : List Int) (r1 : List Int) (r2 : Int) (w0 w : World) (hB : Below w0.heap.size w0 w) (hr0 : Kd.C (Kd.int .u8) w0 A0 l0.length l0) (hc0 : l0.length ≤ c0) (h : spec_l6Open.f l0 = some (r1, r2)) :
    Calls Try.prog 25 #[.slice A0 l0.length c0] w fun e w' => ∃ g_ : Nat, e = .returned (.pointer (some ⟨g_, 0, none⟩)) ∧ IsS61 w0 w' g_ r1 r2 ∧ Below w0.heap.size w0 w' ∧ Below w.heap.size w w' := by
  have hu61 := Try.underlying61
  have HR0 := Aside0.mk hr0
  have HC0 := Aside0.mk hc0
  clear hr0 hc0
  have HBW := Aside0.mk (Below.refl w.heap.size w)
  have HW0 := Aside0.mk hB.size
  have HB := Aside0.mk hB
  clear hB
  have H : (if (l0.length : Int) > 2000 then (if 2000 ≤ (l0.length : Int) then (some (l0.take 2000, 0)) else (none)) else (some (l0, 0))) = some (r1, r2) := h
  clear h
  by_cases c2 : (l0.length : Int) > 2000
  · rw [if_pos c2] at H
    have c2b0 : decide (2000 < (l0.length : Int)) = true := decide_eq_true c2
    have c2b1 : decide (2000 < l0.length) = true := decide_eq_true (by omega)
    clear c2
    by_cases c3 : 2000 ≤ (l0.length : Int)
    · rw [if_pos c3] at H
      have c3b0 := eq_true c3
      have c3b1 : decide (2000 ≤ (l0.length : Int)) = true := decide_eq_true c3
      clear c3
      simp only [Option.some.injEq, Prod.mk.injEq] at H
      obtain ⟨rfl, rfl⟩ := H
      obtain ⟨i04, hi04, _, hsz4, _⟩ := info_parts info5
      obtain ⟨hcut4, hA4, hC4⟩ := print_take_of (P := Try.prog) (Value.int .u8) 0 22 5 .i64 Try.underlying22 hi04 hsz4 A0 c0 l0 2000 (by omega) (of_decide_eq_true qq7) HC0.out
      have HR192 := Aside0.mk (Kd.C_of_reads (h1 := fun _ => rfl) (hA4 _ (Kd.reads_of_C HR0.out)))
      have HC192 := Aside0.mk hC4
      clear hA4 hC4 hi04 hsz4
      go_enter Try.func25, Try.ntmps25
      go_wp2_with (first | ((with_reducible refine gate_dst (N := 10) rfl ?_); refine box_event ?hg (N := 10) ?hd (cs := #[.slice A0 (l0.take 2000).length c0, .int .i64 0]) (t := 61) ?hr ?_; (case hd => rfl); (case hg => rfl); (case hr => exact qq18); intro gb193 hg w5 hbox hb; have n0_ := Aside0.mk (below_step HBW.out hb); have n1_ := Aside0.mk (below_step qq1 hb); have n2_ := Aside0.mk (hbox); have n3_ := Aside0.mk ((qq27 : w.heap.size ≤ gb193)); have n4_ := Aside0.mk ((Nat.le_trans HW0.out (qq27 : w.heap.size ≤ gb193) : w0.heap.size ≤ gb193)); clear HBW; clear HB; have HBW := n0_; have HB := n1_; have BK193 := n2_; have GW193 := n3_; have GE193 := n4_; clear n0_ n1_ n2_ n3_ n4_; clear hb hbox hg))
      go_ret
      exact ⟨_, rfl, (show IsS61 w0 _ gb193 (l0.take 2000) 0 from ⟨_, _, qq23 BK193.out, GE193.out, HR192.out⟩), qq3 HB.out GE193.out, qq3 HBW.out GW193.out⟩
    · rw [if_neg c3] at H
      exact absurd H (by simp)
  · rw [if_neg c2] at H
    have c2b0 : decide (2000 < (l0.length : Int)) = false := decide_eq_false c2
    have c2b1 : decide (2000 < l0.length) = false := decide_eq_false (by omega)
    clear c2
    simp only [Option.some.injEq, Prod.mk.injEq] at H
    obtain ⟨rfl, rfl⟩ := H
    go_enter Try.func25, Try.ntmps25
    go_wp2_with (first | ((with_reducible refine gate_dst (N := 10) rfl ?_); refine box_event ?hg (N := 10) ?hd (cs := #[.slice A0 l0.length c0, .int .i64 0]) (t := 61) ?hr ?_; (case hd => rfl); (case hg => rfl); (case hr => exact qq18); intro gb194 hg w6 hbox hb; have n0_ := Aside0.mk (below_step HBW.out hb); have n1_ := Aside0.mk (below_step qq1 hb); have n2_ := Aside0.mk (hbox); have n3_ := Aside0.mk ((qq27 : w.heap.size ≤ gb194)); have n4_ := Aside0.mk ((Nat.le_trans HW0.out (qq27 : w.heap.size ≤ gb194) : w0.heap.size ≤ gb194)); clear HBW; clear HB; have HBW := n0_; have HB := n1_; have BK194 := n2_; have GW194 := n3_; have GE194 := n4_; clear n0_ n1_ n2_ n3_ n4_; clear hb hbox hg))
    go_ret
    exact ⟨_, rfl, (show IsS61 w0 _ gb194 l0 0 from ⟨_, _, qq23 BK194.out, GE194.out, HR0.out⟩), qq3 HB.out GE194.out, qq3 HBW.out GW194.out⟩

end Go.Proofs.Ytmcfhmflncghiaa.Q
namespace Go.Proofs.Ytmcfhmflncghiaa.Q
open Go.RowKit Go.Proofs.YtmcfhmflncghiaaW.PrintWords Go.Proofs.YtmcfhmflncghiaaW.PrintLast Go.Proofs.YtmcfhmflncghiaaW.PrintMore
attribute [local go_sem] max2_int min2_int max_two min_two max_three min_three max_four min_four
set_option linter.unusedVariables false
set_option linter.unusedSimpArgs false

/-! ### spec_l91Lengths: function 35 -/
def spec_l91Lengths.l0 : Nat → List Int → Int → Int → List Int → Int → Option (List Int × Int)
  | 0, _, _, _, _, _ => none
  | k + 1, x3, x4, x5, x1000, x1001 => if x5 < x4 then ((spec_l6Rd_pick.f k x1000 x1001 9).bind fun bt571 => (if x3.length < 17592186044416 then (spec_l91Lengths.l0 k (x3 ++ [bt571.1]) x4 (wrap64 (x5 + 1)) x1000 bt571.2) else (none))) else ((spec_l6Rd_pick.f k x1000 x1001 x4).bind fun bt576 => ((spec_l6Rd_pick.f k x1000 bt576.2 5).bind fun bt578 => (if 0 ≤ bt576.1 then (if bt576.1 < (x3.length : Int) then ((some (x3.set (bt576.1 : Int).toNat (wrap64 (1 + bt578.1)) : List Int)).bind fun y580 => ((spec_l6Rd_pick.f k x1000 bt578.2 40).bind fun bt581 => (if bt581.1 = 0 then ((some (([(-1), 10001] : List Int) : List Int)).bind fun y583 => ((spec_l6Rd_pick.f k x1000 bt581.2 2).bind fun bt586 => (if 0 ≤ bt586.1 then (if bt586.1 < (y583.length : Int) then (if 0 < (x3.length : Int) then (some ((y580.set (0 : Int).toNat (rd y583 bt586.1)), bt586.2)) else (none)) else (none)) else (none)))) else (if bt581.1 = 1 then (if 0 ≤ x4 then (if (x4 : Int).toNat ≤ 35184372088832 then (some ((List.replicate (x4 : Int).toNat 0), bt581.2)) else (none)) else (none)) else (if bt581.1 = 2 then (some ((([] : List Int)), bt581.2)) else (some (y580, bt581.2))))))) else (none)) else (none))))
def spec_l91Lengths.f (k : Nat) (s0_0 : List Int) (s0_1 : Int) : Option (List Int × Int) := (spec_l6Rd_pick.f k s0_0 s0_1 6).bind fun bt569 => (spec_l91Lengths.l0 k (([] : List Int)) (wrap64 (1 + bt569.1)) 0 s0_0 bt569.2)
set_option maxHeartbeats 8000000 in
set_option maxRecDepth 100000 in
theorem spec_l91Lengths.calls (k : Nat) (g : Nat) (s0_0 : List Int) (s0_1 : Int) (r1 : List Int) (r2 : Int) (w0 w : World) (hI : IsS61 w0 w g s0_0 s0_1) (hB : Below w0.heap.size w0 w) (h : spec_l91Lengths.f k s0_0 s0_1 = some (r1, r2)) :
    Calls Try.prog 35 #[.pointer (some ⟨g, 0, none⟩)] w fun e w' => ∃ v0_ : Value, e = .returned (v0_) ∧ Kd.R (Kd.int .i64) 3 w' w.heap.size (fun _ => True) v0_ r1 ∧ IsS61 w0 w' g s0_0 r2 ∧ Below w0.heap.size w0 w' ∧ KeepBut w w' g none := by
  have HI0 := Aside0.mk hI
  have HK := Aside0.mk (KeepBut.refl w g none)
  have HL := Aside0.mk hB.size
  clear hI
  have HW0 := Aside0.mk hB.size
  have HB := Aside0.mk hB
  clear hB
  have H : ((spec_l6Rd_pick.f k s0_0 s0_1 6).bind fun bt569 => (spec_l91Lengths.l0 k (([] : List Int)) (wrap64 (1 + bt569.1)) 0 s0_0 bt569.2)) = some (r1, r2) := h
  clear h
  obtain ⟨y566, hy566⟩ : ∃ y_ : List Int, y_ = (([] : List Int)) := ⟨_, rfl⟩
  replace H : ((spec_l6Rd_pick.f k s0_0 s0_1 6).bind fun bt569 => (spec_l91Lengths.l0 k y566 (wrap64 (1 + bt569.1)) 0 s0_0 bt569.2)) = some (r1, r2) := by first | (rw [hy566]; with_reducible exact H) | (have H2_ := (Option.bind_some _ _).symm.trans H; rw [hy566]; with_reducible exact H2_) | (have H2_ := (Option.bind_some _ _).symm.trans H; with_reducible exact H2_) | with_reducible exact H | (rw [hy566]; exact H) | exact H
  have Ny566 := Aside0.mk hy566
  clear hy566
  replace H := Option.bind_eq_some_iff.mp H
  obtain ⟨⟨t569, t570⟩, A20, H⟩ := H
  replace H : (spec_l91Lengths.l0 k y566 (wrap64 (1 + t569)) 0 s0_0 t570) = some (r1, r2) := H
  have A2 := Aside0.mk A20
  clear A20
  have H' := Aside0.mk H
  clear H
  go_enter Try.func35, Try.ntmps35
  go_wp2_with (first | ((with_reducible refine gate_dst (N := 6) rfl ?_); refine Kd.R_lit (Kd.int .i64) _ 3 ?hg (N := 6) ?hd (xs := ([] : List Int)) (inner := []) (ok := fun _ => True) (okp := fun _ => True) ?hr ?hp (fun _ hk => hk) trivial (Below.refl _ _) (Nat.le_refl _) (by simp) ?_; (case hd => rfl); (case hg => rfl); (case hr => exact qq18); (case hp => exact (Reps.none _ _)); intro v567 w3 ho4 hb hg_ hnew_; clear hg_ hnew_; (first | rw [← Ny566.out] at ho4 | (simp only [Int.reduceToNat] at ho4; rw [← Ny566.out] at ho4)); have n0_ := Aside0.mk (Kd.R_lower ho4 (keep_size (w := w) (g := g) (row := none) qq10)); have n1_ := Aside0.mk (IsS61.below (qq8 HI0.out) hb); have n2_ := Aside0.mk (KeepBut.trans qq10 (KeepBut.of_below hb g none) (.inl rfl)); have n3_ := Aside0.mk (below_step (qq6 HB.out HI0.out) hb); clear HI0; clear HK; clear HB; have HO568 := n0_; have HI0 := n1_; have HK := n2_; have HB := n3_; clear n0_ n1_ n2_ n3_; clear hb ho4) | ((with_reducible refine gate_callee (f := 36) rfl ?_); refine goesL_ (some 8) rfl rfl Try.func36 (by kernel_rfl) rfl #[.pointer (some ⟨g, 0, none⟩), .int .i64 6] rfl qq5 ?_; (with_reducible refine (spec_l6Rd_pick.calls k g s0_0 s0_1 6 t569 t570 w0 _ ?side1 ?side2 A2.out).mono ?_); (case side1 => exact qq8 HI0.out); (case side2 => exact qq6 HB.out HI0.out); rintro e w5 ⟨rfl, hi, hb, hk⟩; refine ⟨_, rfl, ?_⟩; have n0_ := Aside0.mk (Kd.R_mono (Kd.R_keep (IsS61.apart (show IsS61 w0 _ g s0_0 s0_1 from by repeat (first | (with_reducible first | exact HI0.out | apply IsS61.alloc | apply IsS61.drewN | apply IsS61.drew | apply IsS61.set_1) | exact HI0.out)) (qq2 HO568.out) (by decide)) hk (fun _ h => h.2)) (fun _ h => h.1)); have n1_ := Aside0.mk (KeepBut.trans qq10 hk (.inl rfl)); have n2_ := Aside0.mk (hb); have n3_ := Aside0.mk (hi); clear HO568; clear HK; clear HB; clear HI0; have HO568 := n0_; have HK := n1_; have HB := n2_; have HI0 := n3_; clear n0_ n1_ n2_ n3_; (try clear hb); (try clear hb2); (try clear hk); (try clear hi)))
  go_loopg [3, 5] k (fun kq v3 v5 w' => ∃ (x3_1 : List Int) (x5_1 : Int) (x1001_1 : Int), v5 = .int .i64 x5_1 ∧ Aside0 (spec_l91Lengths.l0 kq x3_1 (wrap64 (1 + t569)) x5_1 s0_0 x1001_1 = some (r1, r2)) ∧ Aside0 (kq ≤ k) ∧ Aside0 (Kd.R (Kd.int .i64) 3 w' w.heap.size (fun _ => True) v3 x3_1) ∧ Aside0 (IsS61 w0 w' g s0_0 x1001_1) ∧ Aside0 (KeepBut w w' g none) ∧ Aside0 (Below w0.heap.size w0 w'))
  case atStart => exact ⟨(y566), (0), (t570), qq11, H', ⟨Nat.le_refl _⟩, ⟨qq2 HO568.out⟩, ⟨qq8 HI0.out⟩, ⟨qq10⟩, ⟨qq6 HB.out HI0.out⟩⟩
  case round =>
    clear H'
    try clear p2
    try clear c3
    obtain ⟨x3_1, x5_1, x1001_1, rfl, HA, HK1, HO_3, HI0, HK, HB⟩ := hrel
    cases gk with
    | zero => exact absurd HA.out (by simp [spec_l91Lengths.l0])
    | succ k1 =>
      have H := HA.out
      clear HA
      simp only [spec_l91Lengths.l0] at H
      by_cases c6 : x5_1 < (wrap64 (1 + t569))
      · rw [if_pos c6] at H
        have c6b0 : decide (x5_1 < (wrap64 (1 + t569))) = true := decide_eq_true c6
        clear c6
        replace H := Option.bind_eq_some_iff.mp H
        obtain ⟨⟨t571, t572⟩, A70, H⟩ := H
        replace H : (if x3_1.length < 17592186044416 then (spec_l91Lengths.l0 k1 (x3_1 ++ [t571]) (wrap64 (1 + t569)) (wrap64 (x5_1 + 1)) s0_0 t572) else (none)) = some (r1, r2) := H
        have A7 := Aside0.mk A70
        clear A70
        by_cases c8 : x3_1.length < 17592186044416
        · rw [if_pos c8] at H
          have LMc8 := Aside0.mk c8
          clear c8
          obtain ⟨y573, hy573⟩ : ∃ y_ : List Int, y_ = (x3_1 ++ [t571]) := ⟨_, rfl⟩
          replace H : (spec_l91Lengths.l0 k1 y573 (wrap64 (1 + t569)) (wrap64 (x5_1 + 1)) s0_0 t572) = some (r1, r2) := by first | (rw [hy573]; with_reducible exact H) | (have H2_ := (Option.bind_some _ _).symm.trans H; rw [hy573]; with_reducible exact H2_) | (have H2_ := (Option.bind_some _ _).symm.trans H; with_reducible exact H2_) | with_reducible exact H | (rw [hy573]; exact H) | exact H
          have Ny573 := Aside0.mk hy573
          clear hy573
          have H' := Aside0.mk H
          clear H
          go_wp2_with (first | ((with_reducible refine gate_callee (f := 36) rfl ?_); refine goesL_ (some 17) rfl rfl Try.func36 (by kernel_rfl) rfl #[.pointer (some ⟨g, 0, none⟩), .int .i64 9] rfl qq5 ?_; (with_reducible refine (spec_l6Rd_pick.calls k1 g s0_0 x1001_1 9 t571 t572 w0 _ ?side1 ?side2 A7.out).mono ?_); (case side1 => exact qq8 HI0.out); (case side2 => exact qq6 HB.out HI0.out); rintro e w9 ⟨rfl, hi, hb, hk⟩; refine ⟨_, rfl, ?_⟩; have n0_ := Aside0.mk (Kd.R_mono (Kd.R_keep (IsS61.apart (show IsS61 w0 _ g s0_0 x1001_1 from by repeat (first | (with_reducible first | exact HI0.out | apply IsS61.alloc | apply IsS61.drewN | apply IsS61.drew | apply IsS61.set_1) | exact HI0.out)) (qq2 HO_3.out) (by decide)) hk (fun _ h => h.2)) (fun _ h => h.1)); have n1_ := Aside0.mk (KeepBut.trans qq10 hk (.inl rfl)); have n2_ := Aside0.mk (hb); have n3_ := Aside0.mk (hi); clear HO_3; clear HK; clear HB; clear HI0; have HO_3 := n0_; have HK := n1_; have HB := n2_; have HI0 := n3_; clear n0_ n1_ n2_ n3_; (try clear hb); (try clear hb2); (try clear hk); (try clear hi)) | ((with_reducible refine gate_builtin (b := .append) (xs := #[.tmp 15, .tmp 18]) rfl ?_); at_builtin; refine Kd.R_append (Kd.int .i64) w.heap.size rfl (.tmp 15) (.tmp 18) 27 3 (.int .i64 0) 8 rfl Try.underlying27 info3 rfl (by decide) (by omega) u3 x3_1 t571 [.int .i64 t571] (fun _ => True) (fun _ => False) rfl rfl ?aP (fun _ hk => hk.elim) ?aF ?aO (Below.refl _ _) ?aS ?aL ?_; (case aP => exact rfl); (case aF => exact (fun _ _ => trivial)); (case aO => exact (qq2 HO_3.out)); (case aS => exact (keep_size (w := w) (g := g) (row := none) qq10)); (case aL => have := LMc8.out; omega); intro v574 w10 ho hb hg hat; rw [← Ny573.out] at ho; have n0_ := Aside0.mk (IsS61.grown (qq8 HI0.out) hg (IsS61.own_ne HI0.out HO_3.out (by decide))); have n1_ := Aside0.mk (below_weaken (qq6 HB.out HI0.out) HL.out hb); have n2_ := Aside0.mk (KeepBut.trans qq10 (KeepBut.of_grown hg g) (Kd.R_base2 HO_3.out)); have n3_ := Aside0.mk (ho); clear HI0; clear HB; clear HK; clear HO_3; have HI0 := n0_; have HB := n1_; have HK := n2_; have HO575 := n3_; clear n0_ n1_ n2_ n3_; clear ho hb hg hat))
          go_roundg k1
          case measure => have := HK1.out; omega
          case rel => exact ⟨(y573), (wrap64 (x5_1 + 1)), (t572), qq11, H', ⟨by have := HK1.out; omega⟩, ⟨qq2 HO575.out⟩, ⟨qq8 HI0.out⟩, ⟨qq10⟩, ⟨qq6 HB.out HI0.out⟩⟩
        · rw [if_neg c8] at H
          exact absurd H (by simp)
      · rw [if_neg c6] at H
        have c6b0 : decide (x5_1 < (wrap64 (1 + t569))) = false := decide_eq_false c6
        clear c6
        replace H := Option.bind_eq_some_iff.mp H
        obtain ⟨⟨t576, t577⟩, A110, H⟩ := H
        replace H : ((spec_l6Rd_pick.f k1 s0_0 t577 5).bind fun bt578 => (if 0 ≤ t576 then (if t576 < (x3_1.length : Int) then ((some (x3_1.set (t576 : Int).toNat (wrap64 (1 + bt578.1)) : List Int)).bind fun y580 => ((spec_l6Rd_pick.f k1 s0_0 bt578.2 40).bind fun bt581 => (if bt581.1 = 0 then ((some (([(-1), 10001] : List Int) : List Int)).bind fun y583 => ((spec_l6Rd_pick.f k1 s0_0 bt581.2 2).bind fun bt586 => (if 0 ≤ bt586.1 then (if bt586.1 < (y583.length : Int) then (if 0 < (x3_1.length : Int) then (some ((y580.set (0 : Int).toNat (rd y583 bt586.1)), bt586.2)) else (none)) else (none)) else (none)))) else (if bt581.1 = 1 then (if 0 ≤ (wrap64 (1 + t569)) then (if ((wrap64 (1 + t569)) : Int).toNat ≤ 35184372088832 then (some ((List.replicate ((wrap64 (1 + t569)) : Int).toNat 0), bt581.2)) else (none)) else (none)) else (if bt581.1 = 2 then (some ((([] : List Int)), bt581.2)) else (some (y580, bt581.2))))))) else (none)) else (none))) = some (r1, r2) := H
        have A11 := Aside0.mk A110
        clear A110
        replace H := Option.bind_eq_some_iff.mp H
        obtain ⟨⟨t578, t579⟩, A120, H⟩ := H
        replace H : (if 0 ≤ t576 then (if t576 < (x3_1.length : Int) then ((some (x3_1.set (t576 : Int).toNat (wrap64 (1 + t578)) : List Int)).bind fun y580 => ((spec_l6Rd_pick.f k1 s0_0 t579 40).bind fun bt581 => (if bt581.1 = 0 then ((some (([(-1), 10001] : List Int) : List Int)).bind fun y583 => ((spec_l6Rd_pick.f k1 s0_0 bt581.2 2).bind fun bt586 => (if 0 ≤ bt586.1 then (if bt586.1 < (y583.length : Int) then (if 0 < (x3_1.length : Int) then (some ((y580.set (0 : Int).toNat (rd y583 bt586.1)), bt586.2)) else (none)) else (none)) else (none)))) else (if bt581.1 = 1 then (if 0 ≤ (wrap64 (1 + t569)) then (if ((wrap64 (1 + t569)) : Int).toNat ≤ 35184372088832 then (some ((List.replicate ((wrap64 (1 + t569)) : Int).toNat 0), bt581.2)) else (none)) else (none)) else (if bt581.1 = 2 then (some ((([] : List Int)), bt581.2)) else (some (y580, bt581.2))))))) else (none)) else (none)) = some (r1, r2) := H
        have A12 := Aside0.mk A120
        clear A120
        by_cases c13 : 0 ≤ t576
        · rw [if_pos c13] at H
          have c13b0 : decide (0 ≤ t576) = true := decide_eq_true c13
          clear c13
          by_cases c14 : t576 < (x3_1.length : Int)
          · rw [if_pos c14] at H
            have c14b0 : decide (t576 < (x3_1.length : Int)) = true := decide_eq_true c14
            clear c14
            obtain ⟨y580, hy580⟩ : ∃ y_ : List Int, y_ = (x3_1.set (t576 : Int).toNat (wrap64 (1 + t578))) := ⟨_, rfl⟩
            replace H : ((spec_l6Rd_pick.f k1 s0_0 t579 40).bind fun bt581 => (if bt581.1 = 0 then ((some (([(-1), 10001] : List Int) : List Int)).bind fun y583 => ((spec_l6Rd_pick.f k1 s0_0 bt581.2 2).bind fun bt586 => (if 0 ≤ bt586.1 then (if bt586.1 < (y583.length : Int) then (if 0 < (x3_1.length : Int) then (some ((y580.set (0 : Int).toNat (rd y583 bt586.1)), bt586.2)) else (none)) else (none)) else (none)))) else (if bt581.1 = 1 then (if 0 ≤ (wrap64 (1 + t569)) then (if ((wrap64 (1 + t569)) : Int).toNat ≤ 35184372088832 then (some ((List.replicate ((wrap64 (1 + t569)) : Int).toNat 0), bt581.2)) else (none)) else (none)) else (if bt581.1 = 2 then (some ((([] : List Int)), bt581.2)) else (some (y580, bt581.2)))))) = some (r1, r2) := by first | (rw [hy580]; with_reducible exact H) | (have H2_ := (Option.bind_some _ _).symm.trans H; rw [hy580]; with_reducible exact H2_) | (have H2_ := (Option.bind_some _ _).symm.trans H; with_reducible exact H2_) | with_reducible exact H | (rw [hy580]; exact H) | exact H
            have Ny580 := Aside0.mk hy580
            clear hy580
            replace H := Option.bind_eq_some_iff.mp H
            obtain ⟨⟨t581, t582⟩, A160, H⟩ := H
            replace H : (if t581 = 0 then ((some (([(-1), 10001] : List Int) : List Int)).bind fun y583 => ((spec_l6Rd_pick.f k1 s0_0 t582 2).bind fun bt586 => (if 0 ≤ bt586.1 then (if bt586.1 < (y583.length : Int) then (if 0 < (x3_1.length : Int) then (some ((y580.set (0 : Int).toNat (rd y583 bt586.1)), bt586.2)) else (none)) else (none)) else (none)))) else (if t581 = 1 then (if 0 ≤ (wrap64 (1 + t569)) then (if ((wrap64 (1 + t569)) : Int).toNat ≤ 35184372088832 then (some ((List.replicate ((wrap64 (1 + t569)) : Int).toNat 0), t582)) else (none)) else (none)) else (if t581 = 2 then (some ((([] : List Int)), t582)) else (some (y580, t582))))) = some (r1, r2) := H
            have A16 := Aside0.mk A160
            clear A160
            by_cases c17 : t581 = 0
            · rw [if_pos c17] at H
              have c17b0 : (t581 == 0) = true := beq_iff_eq.mpr c17
              have c17b1 : (t581 != 0) = false := bne_eq_false_iff_eq.mpr c17
              clear c17
              obtain ⟨y583, hy583⟩ : ∃ y_ : List Int, y_ = (([(-1), 10001] : List Int)) := ⟨_, rfl⟩
              replace H : ((spec_l6Rd_pick.f k1 s0_0 t582 2).bind fun bt586 => (if 0 ≤ bt586.1 then (if bt586.1 < (y583.length : Int) then (if 0 < (x3_1.length : Int) then (some ((y580.set (0 : Int).toNat (rd y583 bt586.1)), bt586.2)) else (none)) else (none)) else (none))) = some (r1, r2) := by first | (rw [hy583]; with_reducible exact H) | (have H2_ := (Option.bind_some _ _).symm.trans H; rw [hy583]; with_reducible exact H2_) | (have H2_ := (Option.bind_some _ _).symm.trans H; with_reducible exact H2_) | with_reducible exact H | (rw [hy583]; exact H) | exact H
              have Ny583 := Aside0.mk hy583
              clear hy583
              replace H := Option.bind_eq_some_iff.mp H
              obtain ⟨⟨t586, t587⟩, A180, H⟩ := H
              replace H : (if 0 ≤ t586 then (if t586 < (y583.length : Int) then (if 0 < (x3_1.length : Int) then (some ((y580.set (0 : Int).toNat (rd y583 t586)), t587)) else (none)) else (none)) else (none)) = some (r1, r2) := H
              have A18 := Aside0.mk A180
              clear A180
              by_cases c19 : 0 ≤ t586
              · rw [if_pos c19] at H
                have c19b0 : decide (0 ≤ t586) = true := decide_eq_true c19
                clear c19
                by_cases c20 : t586 < (y583.length : Int)
                · rw [if_pos c20] at H
                  have c20b0 : decide (t586 < (y583.length : Int)) = true := decide_eq_true c20
                  clear c20
                  by_cases c21 : 0 < (x3_1.length : Int)
                  · rw [if_pos c21] at H
                    have c21b0 : decide (0 < (x3_1.length : Int)) = true := decide_eq_true c21
                    have c21b1 : decide (0 < x3_1.length) = true := decide_eq_true (by omega)
                    clear c21
                    obtain ⟨y589, hy589⟩ : ∃ y_ : List Int, y_ = (y580.set (0 : Int).toNat (rd y583 t586)) := ⟨_, rfl⟩
                    replace H : (some (y589, t587)) = some (r1, r2) := by first | (rw [hy589]; with_reducible exact H) | (have H2_ := (Option.bind_some _ _).symm.trans H; rw [hy589]; with_reducible exact H2_) | (have H2_ := (Option.bind_some _ _).symm.trans H; with_reducible exact H2_) | with_reducible exact H | (rw [hy589]; exact H) | exact H
                    have Ny589 := Aside0.mk hy589
                    clear hy589
                    simp only [Option.some.injEq, Prod.mk.injEq] at H
                    obtain ⟨rfl, rfl⟩ := H
                    go_wp2_with (first | ((with_reducible refine gate_callee (f := 36) rfl ?_); refine goesL_ (some 23) rfl rfl Try.func36 (by kernel_rfl) rfl #[.pointer (some ⟨g, 0, none⟩), .int .i64 (wrap64 (1 + t569))] rfl qq5 ?_; (with_reducible refine (spec_l6Rd_pick.calls k1 g s0_0 x1001_1 (wrap64 (1 + t569)) t576 t577 w0 _ ?side1 ?side2 A11.out).mono ?_); (case side1 => exact qq8 HI0.out); (case side2 => exact qq6 HB.out HI0.out); rintro e w23 ⟨rfl, hi, hb, hk⟩; refine ⟨_, rfl, ?_⟩; have n0_ := Aside0.mk (Kd.R_mono (Kd.R_keep (IsS61.apart (show IsS61 w0 _ g s0_0 x1001_1 from by repeat (first | (with_reducible first | exact HI0.out | apply IsS61.alloc | apply IsS61.drewN | apply IsS61.drew | apply IsS61.set_1) | exact HI0.out)) (qq2 HO_3.out) (by decide)) hk (fun _ h => h.2)) (fun _ h => h.1)); have n1_ := Aside0.mk (KeepBut.trans qq10 hk (.inl rfl)); have n2_ := Aside0.mk (hb); have n3_ := Aside0.mk (hi); clear HO_3; clear HK; clear HB; clear HI0; have HO_3 := n0_; have HK := n1_; have HB := n2_; have HI0 := n3_; clear n0_ n1_ n2_ n3_; (try clear hb); (try clear hb2); (try clear hk); (try clear hi)) | ((with_reducible refine gate_callee (f := 36) rfl ?_); refine goesL_ (some 25) rfl rfl Try.func36 (by kernel_rfl) rfl #[.pointer (some ⟨g, 0, none⟩), .int .i64 5] rfl qq5 ?_; (with_reducible refine (spec_l6Rd_pick.calls k1 g s0_0 t577 5 t578 t579 w0 _ ?side1 ?side2 A12.out).mono ?_); (case side1 => exact qq8 HI0.out); (case side2 => exact qq6 HB.out HI0.out); rintro e w24 ⟨rfl, hi, hb, hk⟩; refine ⟨_, rfl, ?_⟩; have n0_ := Aside0.mk (Kd.R_mono (Kd.R_keep (IsS61.apart (show IsS61 w0 _ g s0_0 t577 from by repeat (first | (with_reducible first | exact HI0.out | apply IsS61.alloc | apply IsS61.drewN | apply IsS61.drew | apply IsS61.set_1) | exact HI0.out)) (qq2 HO_3.out) (by decide)) hk (fun _ h => h.2)) (fun _ h => h.1)); have n1_ := Aside0.mk (KeepBut.trans qq10 hk (.inl rfl)); have n2_ := Aside0.mk (hb); have n3_ := Aside0.mk (hi); clear HO_3; clear HK; clear HB; clear HI0; have HO_3 := n0_; have HK := n1_; have HB := n2_; have HI0 := n3_; clear n0_ n1_ n2_ n3_; (try clear hb); (try clear hb2); (try clear hk); (try clear hi); have p15 : 0 ≤ (t576 : Int) := of_decide_eq_true qq7; have q15 : (t576 : Int) < ((x3_1.length : Int) : Int) := of_decide_eq_true qq7; obtain ⟨go15, co15, eo15, gb15, gl15, cl15, HG15⟩ := Kd.R_form HO_3.out (by omega); (first | cases eo15 | (injection eo15 with ea_ en_ ec_; (first | subst ea_ | (injection ea_ with ea_; subst ea_)); subst ec_; clear en_)); have GB15 := Aside0.mk gb15; have GG15 := Aside0.mk HG15; clear gb15 gl15 HG15; obtain ⟨hx15_0, hf15_0⟩ := Kd.R_celln 0 HO_3.out (t576 : Int) p15 q15; replace p15 := eq_true p15; replace q15 := eq_true q15; obtain ⟨hy25_, hz25_⟩ := Kd.R_celln 0 HO_3.out (t576 : Int) (of_decide_eq_true qq7) (of_decide_eq_true qq7); have HP25 := Kd.R_putg HO_3.out (t576 : Int) (wrap64 (1 + t578))) | ((with_reducible refine gate_store (t := 3) (p := 27) rfl ?_); refine store_event (t := 3) (p := 27) (v := ?vo_w26) (w1 := (w24.setCell ⟨go15, (t576 : Int).toNat, none⟩ (.int .i64 (wrap64 (1 + t578))))) ?hg ?ho ?hn ?hr ?_; (case ho => rfl); (case hg => rfl); (case hn => rfl); (case hr => exact qq18); intro w26 hw; have hg : w24.grownBy w26 (some go15) := (by rw [hw]; exact HP25.2); have hp_ : Kd.R (Kd.int .i64) 3 w26 w.heap.size (fun _ => True) (.slice (some ⟨go15, 0, none⟩) x3_1.length co15) y580 := (by rw [hw, Ny580.out]; exact HP25.1); clear HP25; have n0_ := Aside0.mk (hp_); have n1_ := Aside0.mk (IsS61.grown (qq8 HI0.out) hg (IsS61.own_ne HI0.out HO_3.out (by decide))); have n2_ := Aside0.mk ((qq34 : Below w0.heap.size w0 w26)); have n3_ := Aside0.mk (KeepBut.trans qq10 (KeepBut.of_grown hg g) (Kd.R_base2 HO_3.out)); clear HO_3; clear HI0; clear HB; clear HK; have HO_3 := n0_; have HI0 := n1_; have HB := n2_; have HK := n3_; clear n0_ n1_ n2_ n3_; clear hg hw hp_) | ((with_reducible refine gate_callee (f := 36) rfl ?_); refine goesL_ (some 29) rfl rfl Try.func36 (by kernel_rfl) rfl #[.pointer (some ⟨g, 0, none⟩), .int .i64 40] rfl qq5 ?_; (with_reducible refine (spec_l6Rd_pick.calls k1 g s0_0 t579 40 t581 t582 w0 _ ?side1 ?side2 A16.out).mono ?_); (case side1 => exact qq8 HI0.out); (case side2 => exact qq6 HB.out HI0.out); rintro e w27 ⟨rfl, hi, hb, hk⟩; refine ⟨_, rfl, ?_⟩; have n0_ := Aside0.mk (Kd.R_mono (Kd.R_keep (IsS61.apart (show IsS61 w0 _ g s0_0 t579 from by repeat (first | (with_reducible first | exact HI0.out | apply IsS61.alloc | apply IsS61.drewN | apply IsS61.drew | apply IsS61.set_1) | exact HI0.out)) (qq2 HO_3.out) (by decide)) hk (fun _ h => h.2)) (fun _ h => h.1)); have n1_ := Aside0.mk (KeepBut.trans qq10 hk (.inl rfl)); have n2_ := Aside0.mk (hb); have n3_ := Aside0.mk (hi); clear HO_3; clear HK; clear HB; clear HI0; have HO_3 := n0_; have HK := n1_; have HB := n2_; have HI0 := n3_; clear n0_ n1_ n2_ n3_; (try clear hb); (try clear hb2); (try clear hk); (try clear hi)) | ((with_reducible refine gate_dst (N := 33) rfl ?_); refine Kd.R_lit (Kd.int .i64) _ 3 ?hg (N := 33) ?hd (xs := ([(-1), 10001] : List Int)) (inner := [.int .i64 (-1), .int .i64 10001]) (ok := fun _ => True) (okp := fun _ => True) ?hr ?hp (fun _ hk => hk) trivial (Below.refl _ _) (Nat.le_refl _) (by simp) ?_; (case hd => rfl); (case hg => rfl); (case hr => exact qq18); (case hp => exact (Reps.one (show Kd.M (Kd.int .i64) _ _ _ (-1) [.int .i64 (-1)] from rfl) (Reps.one (show Kd.M (Kd.int .i64) _ _ _ 10001 [.int .i64 10001] from rfl) (Reps.none _ _)))); intro v584 w28 ho29 hb hg_ hnew_; clear hg_ hnew_; (first | rw [← Ny583.out] at ho29 | (simp only [Int.reduceToNat] at ho29; rw [← Ny583.out] at ho29)); have n0_ := Aside0.mk (Kd.R_elder' (qq2 HO_3.out) (Kd.R_base ho29) hb); have n1_ := Aside0.mk (Kd.R_lower (Kd.R_new' ho29 (Kd.R_lt (qq2 HO_3.out))) (keep_size (w := w) (g := g) (row := none) qq10)); have n2_ := Aside0.mk (IsS61.below (qq8 HI0.out) hb); have n3_ := Aside0.mk (KeepBut.trans qq10 (KeepBut.of_below hb g none) (.inl rfl)); have n4_ := Aside0.mk (below_step (qq6 HB.out HI0.out) hb); clear HO_3; clear HI0; clear HK; clear HB; have HO_3 := n0_; have HO585 := n1_; have HI0 := n2_; have HK := n3_; have HB := n4_; clear n0_ n1_ n2_ n3_ n4_; clear hb ho29) | ((with_reducible refine gate_callee (f := 36) rfl ?_); refine goesL_ (some 35) rfl rfl Try.func36 (by kernel_rfl) rfl #[.pointer (some ⟨g, 0, none⟩), .int .i64 2] rfl qq5 ?_; (with_reducible refine (spec_l6Rd_pick.calls k1 g s0_0 t582 2 t586 t587 w0 _ ?side1 ?side2 A18.out).mono ?_); (case side1 => exact qq8 HI0.out); (case side2 => exact qq6 HB.out HI0.out); rintro e w30 ⟨rfl, hi, hb, hk⟩; refine ⟨_, rfl, ?_⟩; have n0_ := Aside0.mk (Kd.R_mono (Kd.R_keep (IsS61.apart (show IsS61 w0 _ g s0_0 t582 from by repeat (first | (with_reducible first | exact HI0.out | apply IsS61.alloc | apply IsS61.drewN | apply IsS61.drew | apply IsS61.set_1) | exact HI0.out)) (qq2 HO_3.out) (by decide)) hk (fun _ h => h.2)) (fun _ h => h.1)); have n1_ := Aside0.mk (Kd.R_mono (Kd.R_keep (IsS61.apart (show IsS61 w0 _ g s0_0 t582 from by repeat (first | (with_reducible first | exact HI0.out | apply IsS61.alloc | apply IsS61.drewN | apply IsS61.drew | apply IsS61.set_1) | exact HI0.out)) (qq2 HO585.out) (by decide)) hk (fun _ h => h.2)) (fun _ h => h.1)); have n2_ := Aside0.mk (KeepBut.trans qq10 hk (.inl rfl)); have n3_ := Aside0.mk (hb); have n4_ := Aside0.mk (hi); clear HO_3; clear HO585; clear HK; clear HB; clear HI0; have HO_3 := n0_; have HO585 := n1_; have HK := n2_; have HB := n3_; have HI0 := n4_; clear n0_ n1_ n2_ n3_ n4_; (try clear hb); (try clear hb2); (try clear hk); (try clear hi); obtain ⟨Ao31, co31, eo31⟩ := Kd.R_slice HO585.out; subst eo31; have p588 : 0 ≤ (t586 : Int) := of_decide_eq_true qq7; have q588 : t586 < (y583.length : Int) := of_decide_eq_true qq7; obtain ⟨ad588, e588, hx588_0⟩ := Kd.at_int (Kd.R_reads' HO585.out).2.2 t586 p588 q588; cases e588; replace p588 := eq_true p588; replace q588 := eq_true q588; have p22 : 0 ≤ (0 : Int) := (by omega); have q22 : (0 : Int) < ((x3_1.length : Int) : Int) := of_decide_eq_true qq7; have qi22 : (0 < x3_1.length) = True := eq_true (by omega); obtain ⟨hx22_0, hf22_0⟩ := Kd.R_celln 0 HO_3.out (0 : Int) p22 q22; (try rw [show ((0 : Int)).toNat = 0 from rfl] at hx22_0); (try simp only [Nat.reduceMul, Nat.zero_mul, Nat.zero_add, Nat.reduceAdd] at hx22_0); (try rw [show ((0 : Int)).toNat = 0 from rfl] at hf22_0); (try simp only [Nat.reduceMul, Nat.zero_mul, Nat.zero_add, Nat.reduceAdd] at hf22_0); replace p22 := eq_true p22; replace q22 := eq_true q22; have n_ := Aside0.mk (Kd.R_mono (ok' := (fun k_ => some k_ ≠ (.slice (some ad588) y583.length co31 : Value).ownBlock)) HO_3.out (fun k_ hk => hk.2)); clear HO_3; have HO_3 := n_; clear n_; obtain ⟨hy32_, hz32_⟩ := Kd.R_celln 0 HO_3.out (0 : Int) (by omega) (of_decide_eq_true qq7); (try simp only [Int.reduceToNat, Int.toNat_zero, Int.toNat_ofNat, Nat.reduceMul, Nat.zero_mul, Nat.zero_add] at hy32_ hz32_); (try rw [show ((0 : Int)).toNat = 0 from rfl] at hy32_); (try rw [show ((0 : Int)).toNat = 0 from rfl] at hz32_); have HP32 := Kd.R_putg HO_3.out (0 : Int) (rd y583 t586)) | ((with_reducible refine gate_store (t := 3) (p := 38) rfl ?_); refine store_event (t := 3) (p := 38) (v := ?vo_w33) (w1 := (w30.setCell ⟨go15, (0 : Int).toNat, none⟩ (.int .i64 (rd y583 t586)))) ?hg ?ho ?hn ?hr ?_; (case ho => rfl); (case hg => rfl); (case hn => rfl); (case hr => exact qq18); intro w33 hw; have hg : w30.grownBy w33 (some go15) := (by rw [hw]; exact HP32.2); have hp_ : Kd.R (Kd.int .i64) 3 w33 w.heap.size (fun k_ => some k_ ≠ (.slice (some ad588) y583.length co31 : Value).ownBlock) (.slice (some ⟨go15, 0, none⟩) x3_1.length co15) y589 := (by rw [hw, Ny589.out]; exact HP32.1); clear HP32; have n0_ := Aside0.mk (hp_); have n1_ := Aside0.mk (IsS61.grown (qq8 HI0.out) hg (IsS61.own_ne HI0.out HO_3.out (by decide))); have n2_ := Aside0.mk (Kd.R_after (v := (.slice (some ⟨go15, 0, none⟩) x3_1.length co15)) (v1 := (.slice (some ⟨go15, 0, none⟩) x3_1.length co15)) (ok := (fun _ => True)) (qq2 HO585.out) hg (.inl rfl)); have n3_ := Aside0.mk ((qq34 : Below w0.heap.size w0 w33)); have n4_ := Aside0.mk (KeepBut.trans qq10 (KeepBut.of_grown hg g) (Kd.R_base2 HO_3.out)); clear HO_3; clear HI0; clear HO585; clear HB; clear HK; have HO_3 := n0_; have HI0 := n1_; have HO585 := n2_; have HB := n3_; have HK := n4_; clear n0_ n1_ n2_ n3_ n4_; clear hg hw hp_))
                    go_ret
                    exact ⟨_, qq12, qq17 HO_3.out, qq8 HI0.out, qq6 HB.out HI0.out, qq10⟩
                  · rw [if_neg c21] at H
                    exact absurd H (by simp)
                · rw [if_neg c20] at H
                  exact absurd H (by simp)
              · rw [if_neg c19] at H
                exact absurd H (by simp)
            · rw [if_neg c17] at H
              have c17b0 : (t581 == 0) = false := beq_eq_false_iff_ne.mpr c17
              have c17b1 : (t581 != 0) = true := bne_iff_ne.mpr c17
              by_cases c34 : t581 = 1
              · rw [if_pos c34] at H
                have c34b0 : (t581 == 1) = true := beq_iff_eq.mpr c34
                have c34b1 : (t581 != 1) = false := bne_eq_false_iff_eq.mpr c34
                clear c34
                obtain ⟨ji35, hji35⟩ : ∃ j_ : Int, (wrap64 (1 + t569)) = j_ := ⟨_, rfl⟩
                replace H : (if 0 ≤ (ji35) then (if ((ji35) : Int).toNat ≤ 35184372088832 then (some ((List.replicate ((ji35) : Int).toNat 0), t582)) else (none)) else (none)) = some (r1, r2) := by first | (rw [hji35] at H; exact H) | (simp only [hji35] at H ⊢; exact H)
                (try rw [hji35] at c6b0)
                (try rw [hji35] at A11)
                (try rw [hji35] at A12)
                (try rw [hji35] at A16)
                have hji35w : (IntKind.i64.wrap (1 + t569)) = ji35 := (i64_w _).trans hji35
                by_cases c36 : 0 ≤ (ji35)
                · rw [if_pos c36] at H
                  have c36b0 := eq_true c36
                  have c36b1 : decide (0 ≤ (ji35)) = true := decide_eq_true c36
                  clear c36
                  by_cases c37 : ((ji35) : Int).toNat ≤ 35184372088832
                  · rw [if_pos c37] at H
                    have c37b0 := eq_true c37
                    have c37b1 : decide (((ji35) : Int).toNat ≤ 35184372088832) = true := decide_eq_true c37
                    clear c37
                    obtain ⟨y590, hy590⟩ : ∃ y_ : List Int, y_ = (List.replicate ((ji35) : Int).toNat 0) := ⟨_, rfl⟩
                    replace H : (some (y590, t582)) = some (r1, r2) := by first | (rw [hy590]; with_reducible exact H) | (have H2_ := (Option.bind_some _ _).symm.trans H; rw [hy590]; with_reducible exact H2_) | (have H2_ := (Option.bind_some _ _).symm.trans H; with_reducible exact H2_) | with_reducible exact H | (rw [hy590]; exact H) | exact H
                    have Ny590 := Aside0.mk hy590
                    clear hy590
                    simp only [Option.some.injEq, Prod.mk.injEq] at H
                    obtain ⟨rfl, rfl⟩ := H
                    go_wp2_with (first | ((with_reducible refine gate_callee (f := 36) rfl ?_); refine goesL_ (some 23) rfl rfl Try.func36 (by kernel_rfl) rfl #[.pointer (some ⟨g, 0, none⟩), .int .i64 (ji35)] rfl (by (try simp only [List.map_toArray, List.map_cons, List.map_nil]); first | done | (simp only [hji35]; rfl) | rfl | (simp only [List.length_drop, List.length_take]; rfl)) ?_; (with_reducible refine (spec_l6Rd_pick.calls k1 g s0_0 x1001_1 (ji35) t576 t577 w0 _ ?side1 ?side2 A11.out).mono ?_); (case side1 => exact qq8 HI0.out); (case side2 => exact qq6 HB.out HI0.out); rintro e w38 ⟨rfl, hi, hb, hk⟩; refine ⟨_, rfl, ?_⟩; have n0_ := Aside0.mk (Kd.R_mono (Kd.R_keep (IsS61.apart (show IsS61 w0 _ g s0_0 x1001_1 from by repeat (first | (with_reducible first | exact HI0.out | apply IsS61.alloc | apply IsS61.drewN | apply IsS61.drew | apply IsS61.set_1) | exact HI0.out)) (qq2 HO_3.out) (by decide)) hk (fun _ h => h.2)) (fun _ h => h.1)); have n1_ := Aside0.mk (KeepBut.trans qq10 hk (.inl rfl)); have n2_ := Aside0.mk (hb); have n3_ := Aside0.mk (hi); clear HO_3; clear HK; clear HB; clear HI0; have HO_3 := n0_; have HK := n1_; have HB := n2_; have HI0 := n3_; clear n0_ n1_ n2_ n3_; (try clear hb); (try clear hb2); (try clear hk); (try clear hi)) | ((with_reducible refine gate_callee (f := 36) rfl ?_); refine goesL_ (some 25) rfl rfl Try.func36 (by kernel_rfl) rfl #[.pointer (some ⟨g, 0, none⟩), .int .i64 5] rfl qq5 ?_; (with_reducible refine (spec_l6Rd_pick.calls k1 g s0_0 t577 5 t578 t579 w0 _ ?side1 ?side2 A12.out).mono ?_); (case side1 => exact qq8 HI0.out); (case side2 => exact qq6 HB.out HI0.out); rintro e w39 ⟨rfl, hi, hb, hk⟩; refine ⟨_, rfl, ?_⟩; have n0_ := Aside0.mk (Kd.R_mono (Kd.R_keep (IsS61.apart (show IsS61 w0 _ g s0_0 t577 from by repeat (first | (with_reducible first | exact HI0.out | apply IsS61.alloc | apply IsS61.drewN | apply IsS61.drew | apply IsS61.set_1) | exact HI0.out)) (qq2 HO_3.out) (by decide)) hk (fun _ h => h.2)) (fun _ h => h.1)); have n1_ := Aside0.mk (KeepBut.trans qq10 hk (.inl rfl)); have n2_ := Aside0.mk (hb); have n3_ := Aside0.mk (hi); clear HO_3; clear HK; clear HB; clear HI0; have HO_3 := n0_; have HK := n1_; have HB := n2_; have HI0 := n3_; clear n0_ n1_ n2_ n3_; (try clear hb); (try clear hb2); (try clear hk); (try clear hi); have p15 : 0 ≤ (t576 : Int) := of_decide_eq_true qq7; have q15 : (t576 : Int) < ((x3_1.length : Int) : Int) := of_decide_eq_true qq7; obtain ⟨go15, co15, eo15, gb15, gl15, cl15, HG15⟩ := Kd.R_form HO_3.out (by omega); (first | cases eo15 | (injection eo15 with ea_ en_ ec_; (first | subst ea_ | (injection ea_ with ea_; subst ea_)); subst ec_; clear en_)); have GB15 := Aside0.mk gb15; have GG15 := Aside0.mk HG15; clear gb15 gl15 HG15; obtain ⟨hx15_0, hf15_0⟩ := Kd.R_celln 0 HO_3.out (t576 : Int) p15 q15; replace p15 := eq_true p15; replace q15 := eq_true q15; obtain ⟨hy40_, hz40_⟩ := Kd.R_celln 0 HO_3.out (t576 : Int) (of_decide_eq_true qq7) (of_decide_eq_true qq7); have HP40 := Kd.R_putg HO_3.out (t576 : Int) (wrap64 (1 + t578))) | ((with_reducible refine gate_store (t := 3) (p := 27) rfl ?_); refine store_event (t := 3) (p := 27) (v := ?vo_w41) (w1 := (w39.setCell ⟨go15, (t576 : Int).toNat, none⟩ (.int .i64 (wrap64 (1 + t578))))) ?hg ?ho ?hn ?hr ?_; (case ho => rfl); (case hg => rfl); (case hn => rfl); (case hr => exact qq18); intro w41 hw; have hg : w39.grownBy w41 (some go15) := (by rw [hw]; exact HP40.2); have hp_ : Kd.R (Kd.int .i64) 3 w41 w.heap.size (fun _ => True) (.slice (some ⟨go15, 0, none⟩) x3_1.length co15) y580 := (by rw [hw, Ny580.out]; exact HP40.1); clear HP40; have n0_ := Aside0.mk (hp_); have n1_ := Aside0.mk (IsS61.grown (qq8 HI0.out) hg (IsS61.own_ne HI0.out HO_3.out (by decide))); have n2_ := Aside0.mk ((qq34 : Below w0.heap.size w0 w41)); have n3_ := Aside0.mk (KeepBut.trans qq10 (KeepBut.of_grown hg g) (Kd.R_base2 HO_3.out)); clear HO_3; clear HI0; clear HB; clear HK; have HO_3 := n0_; have HI0 := n1_; have HB := n2_; have HK := n3_; clear n0_ n1_ n2_ n3_; clear hg hw hp_) | ((with_reducible refine gate_callee (f := 36) rfl ?_); refine goesL_ (some 29) rfl rfl Try.func36 (by kernel_rfl) rfl #[.pointer (some ⟨g, 0, none⟩), .int .i64 40] rfl qq5 ?_; (with_reducible refine (spec_l6Rd_pick.calls k1 g s0_0 t579 40 t581 t582 w0 _ ?side1 ?side2 A16.out).mono ?_); (case side1 => exact qq8 HI0.out); (case side2 => exact qq6 HB.out HI0.out); rintro e w42 ⟨rfl, hi, hb, hk⟩; refine ⟨_, rfl, ?_⟩; have n0_ := Aside0.mk (Kd.R_mono (Kd.R_keep (IsS61.apart (show IsS61 w0 _ g s0_0 t579 from by repeat (first | (with_reducible first | exact HI0.out | apply IsS61.alloc | apply IsS61.drewN | apply IsS61.drew | apply IsS61.set_1) | exact HI0.out)) (qq2 HO_3.out) (by decide)) hk (fun _ h => h.2)) (fun _ h => h.1)); have n1_ := Aside0.mk (KeepBut.trans qq10 hk (.inl rfl)); have n2_ := Aside0.mk (hb); have n3_ := Aside0.mk (hi); clear HO_3; clear HK; clear HB; clear HI0; have HO_3 := n0_; have HK := n1_; have HB := n2_; have HI0 := n3_; clear n0_ n1_ n2_ n3_; (try clear hb); (try clear hb2); (try clear hk); (try clear hi)) | ((with_reducible refine gate_dst (N := 42) rfl ?_); refine Kd.R_make (Kd.int .i64) _ 3 rfl (N := 42) rfl 27 _ _ rfl (ji35) rfl rfl Try.underlying27 (.int .i64 0) 8 info3 rfl (by decide) (by omega) 0 (ok := fun _ => True) (okp := fun _ => True) rfl (fun _ hk => hk) trivial (of_decide_eq_true qq7) (Nat.le_trans (Nat.mul_le_mul_right _ (of_decide_eq_true qq7 : (ji35).toNat ≤ 35184372088832)) (by omega)) (Below.refl _ _) (Nat.le_refl _) ?_; intro v591 w43 ho44 hb hg_ hnew_; clear hg_ hnew_; (first | rw [← Ny590.out] at ho44 | (simp only [Int.reduceToNat] at ho44; rw [← Ny590.out] at ho44)); have n0_ := Aside0.mk (Kd.R_elder' (qq2 HO_3.out) (Kd.R_base ho44) hb); have n1_ := Aside0.mk (Kd.R_lower (Kd.R_new' ho44 (Kd.R_lt (qq2 HO_3.out))) (keep_size (w := w) (g := g) (row := none) qq10)); have n2_ := Aside0.mk (IsS61.below (qq8 HI0.out) hb); have n3_ := Aside0.mk (KeepBut.trans qq10 (KeepBut.of_below hb g none) (.inl rfl)); have n4_ := Aside0.mk (below_step (qq6 HB.out HI0.out) hb); clear HO_3; clear HI0; clear HK; clear HB; have HO_3 := n0_; have HO592 := n1_; have HI0 := n2_; have HK := n3_; have HB := n4_; clear n0_ n1_ n2_ n3_ n4_; clear hb ho44))
                    go_ret
                    exact ⟨_, by first | rfl | (simp [errW_none, errW_some] <;> rfl) | (simp only [← hji35]; first | rfl | (simp [errW_none, errW_some] <;> rfl)) | (simp [*, errW_none, errW_some] <;> rfl), qq17 HO592.out, qq8 HI0.out, qq6 HB.out HI0.out, qq10⟩
                  · rw [if_neg c37] at H
                    exact absurd H (by simp)
                · rw [if_neg c36] at H
                  exact absurd H (by simp)
              · rw [if_neg c34] at H
                have c34b0 : (t581 == 1) = false := beq_eq_false_iff_ne.mpr c34
                have c34b1 : (t581 != 1) = true := bne_iff_ne.mpr c34
                by_cases c45 : t581 = 2
                · rw [if_pos c45] at H
                  have c45b0 : (t581 == 2) = true := beq_iff_eq.mpr c45
                  have c45b1 : (t581 != 2) = false := bne_eq_false_iff_eq.mpr c45
                  clear c45
                  obtain ⟨y593, hy593⟩ : ∃ y_ : List Int, y_ = (([] : List Int)) := ⟨_, rfl⟩
                  replace H : (some (y593, t582)) = some (r1, r2) := by first | (rw [hy593]; with_reducible exact H) | (have H2_ := (Option.bind_some _ _).symm.trans H; rw [hy593]; with_reducible exact H2_) | (have H2_ := (Option.bind_some _ _).symm.trans H; with_reducible exact H2_) | with_reducible exact H | (rw [hy593]; exact H) | exact H
                  have Ny593 := Aside0.mk hy593
                  clear hy593
                  simp only [Option.some.injEq, Prod.mk.injEq] at H
                  obtain ⟨rfl, rfl⟩ := H
                  go_wp2_with (first | ((with_reducible refine gate_callee (f := 36) rfl ?_); refine goesL_ (some 23) rfl rfl Try.func36 (by kernel_rfl) rfl #[.pointer (some ⟨g, 0, none⟩), .int .i64 (wrap64 (1 + t569))] rfl qq5 ?_; (with_reducible refine (spec_l6Rd_pick.calls k1 g s0_0 x1001_1 (wrap64 (1 + t569)) t576 t577 w0 _ ?side1 ?side2 A11.out).mono ?_); (case side1 => exact qq8 HI0.out); (case side2 => exact qq6 HB.out HI0.out); rintro e w46 ⟨rfl, hi, hb, hk⟩; refine ⟨_, rfl, ?_⟩; have n0_ := Aside0.mk (Kd.R_mono (Kd.R_keep (IsS61.apart (show IsS61 w0 _ g s0_0 x1001_1 from by repeat (first | (with_reducible first | exact HI0.out | apply IsS61.alloc | apply IsS61.drewN | apply IsS61.drew | apply IsS61.set_1) | exact HI0.out)) (qq2 HO_3.out) (by decide)) hk (fun _ h => h.2)) (fun _ h => h.1)); have n1_ := Aside0.mk (KeepBut.trans qq10 hk (.inl rfl)); have n2_ := Aside0.mk (hb); have n3_ := Aside0.mk (hi); clear HO_3; clear HK; clear HB; clear HI0; have HO_3 := n0_; have HK := n1_; have HB := n2_; have HI0 := n3_; clear n0_ n1_ n2_ n3_; (try clear hb); (try clear hb2); (try clear hk); (try clear hi)) | ((with_reducible refine gate_callee (f := 36) rfl ?_); refine goesL_ (some 25) rfl rfl Try.func36 (by kernel_rfl) rfl #[.pointer (some ⟨g, 0, none⟩), .int .i64 5] rfl qq5 ?_; (with_reducible refine (spec_l6Rd_pick.calls k1 g s0_0 t577 5 t578 t579 w0 _ ?side1 ?side2 A12.out).mono ?_); (case side1 => exact qq8 HI0.out); (case side2 => exact qq6 HB.out HI0.out); rintro e w47 ⟨rfl, hi, hb, hk⟩; refine ⟨_, rfl, ?_⟩; have n0_ := Aside0.mk (Kd.R_mono (Kd.R_keep (IsS61.apart (show IsS61 w0 _ g s0_0 t577 from by repeat (first | (with_reducible first | exact HI0.out | apply IsS61.alloc | apply IsS61.drewN | apply IsS61.drew | apply IsS61.set_1) | exact HI0.out)) (qq2 HO_3.out) (by decide)) hk (fun _ h => h.2)) (fun _ h => h.1)); have n1_ := Aside0.mk (KeepBut.trans qq10 hk (.inl rfl)); have n2_ := Aside0.mk (hb); have n3_ := Aside0.mk (hi); clear HO_3; clear HK; clear HB; clear HI0; have HO_3 := n0_; have HK := n1_; have HB := n2_; have HI0 := n3_; clear n0_ n1_ n2_ n3_; (try clear hb); (try clear hb2); (try clear hk); (try clear hi); have p15 : 0 ≤ (t576 : Int) := of_decide_eq_true qq7; have q15 : (t576 : Int) < ((x3_1.length : Int) : Int) := of_decide_eq_true qq7; obtain ⟨go15, co15, eo15, gb15, gl15, cl15, HG15⟩ := Kd.R_form HO_3.out (by omega); (first | cases eo15 | (injection eo15 with ea_ en_ ec_; (first | subst ea_ | (injection ea_ with ea_; subst ea_)); subst ec_; clear en_)); have GB15 := Aside0.mk gb15; have GG15 := Aside0.mk HG15; clear gb15 gl15 HG15; obtain ⟨hx15_0, hf15_0⟩ := Kd.R_celln 0 HO_3.out (t576 : Int) p15 q15; replace p15 := eq_true p15; replace q15 := eq_true q15; obtain ⟨hy48_, hz48_⟩ := Kd.R_celln 0 HO_3.out (t576 : Int) (of_decide_eq_true qq7) (of_decide_eq_true qq7); have HP48 := Kd.R_putg HO_3.out (t576 : Int) (wrap64 (1 + t578))) | ((with_reducible refine gate_store (t := 3) (p := 27) rfl ?_); refine store_event (t := 3) (p := 27) (v := ?vo_w49) (w1 := (w47.setCell ⟨go15, (t576 : Int).toNat, none⟩ (.int .i64 (wrap64 (1 + t578))))) ?hg ?ho ?hn ?hr ?_; (case ho => rfl); (case hg => rfl); (case hn => rfl); (case hr => exact qq18); intro w49 hw; have hg : w47.grownBy w49 (some go15) := (by rw [hw]; exact HP48.2); have hp_ : Kd.R (Kd.int .i64) 3 w49 w.heap.size (fun _ => True) (.slice (some ⟨go15, 0, none⟩) x3_1.length co15) y580 := (by rw [hw, Ny580.out]; exact HP48.1); clear HP48; have n0_ := Aside0.mk (hp_); have n1_ := Aside0.mk (IsS61.grown (qq8 HI0.out) hg (IsS61.own_ne HI0.out HO_3.out (by decide))); have n2_ := Aside0.mk ((qq34 : Below w0.heap.size w0 w49)); have n3_ := Aside0.mk (KeepBut.trans qq10 (KeepBut.of_grown hg g) (Kd.R_base2 HO_3.out)); clear HO_3; clear HI0; clear HB; clear HK; have HO_3 := n0_; have HI0 := n1_; have HB := n2_; have HK := n3_; clear n0_ n1_ n2_ n3_; clear hg hw hp_) | ((with_reducible refine gate_callee (f := 36) rfl ?_); refine goesL_ (some 29) rfl rfl Try.func36 (by kernel_rfl) rfl #[.pointer (some ⟨g, 0, none⟩), .int .i64 40] rfl qq5 ?_; (with_reducible refine (spec_l6Rd_pick.calls k1 g s0_0 t579 40 t581 t582 w0 _ ?side1 ?side2 A16.out).mono ?_); (case side1 => exact qq8 HI0.out); (case side2 => exact qq6 HB.out HI0.out); rintro e w50 ⟨rfl, hi, hb, hk⟩; refine ⟨_, rfl, ?_⟩; have n0_ := Aside0.mk (Kd.R_mono (Kd.R_keep (IsS61.apart (show IsS61 w0 _ g s0_0 t579 from by repeat (first | (with_reducible first | exact HI0.out | apply IsS61.alloc | apply IsS61.drewN | apply IsS61.drew | apply IsS61.set_1) | exact HI0.out)) (qq2 HO_3.out) (by decide)) hk (fun _ h => h.2)) (fun _ h => h.1)); have n1_ := Aside0.mk (KeepBut.trans qq10 hk (.inl rfl)); have n2_ := Aside0.mk (hb); have n3_ := Aside0.mk (hi); clear HO_3; clear HK; clear HB; clear HI0; have HO_3 := n0_; have HK := n1_; have HB := n2_; have HI0 := n3_; clear n0_ n1_ n2_ n3_; (try clear hb); (try clear hb2); (try clear hk); (try clear hi)) | ((with_reducible refine gate_dst (N := 45) rfl ?_); refine Kd.R_lit (Kd.int .i64) _ 3 ?hg (N := 45) ?hd (xs := ([] : List Int)) (inner := []) (ok := fun _ => True) (okp := fun _ => True) ?hr ?hp (fun _ hk => hk) trivial (Below.refl _ _) (Nat.le_refl _) (by simp) ?_; (case hd => rfl); (case hg => rfl); (case hr => exact qq18); (case hp => exact (Reps.none _ _)); intro v594 w51 ho52 hb hg_ hnew_; clear hg_ hnew_; (first | rw [← Ny593.out] at ho52 | (simp only [Int.reduceToNat] at ho52; rw [← Ny593.out] at ho52)); have n0_ := Aside0.mk (Kd.R_elder' (qq2 HO_3.out) (Kd.R_base ho52) hb); have n1_ := Aside0.mk (Kd.R_lower (Kd.R_new' ho52 (Kd.R_lt (qq2 HO_3.out))) (keep_size (w := w) (g := g) (row := none) qq10)); have n2_ := Aside0.mk (IsS61.below (qq8 HI0.out) hb); have n3_ := Aside0.mk (KeepBut.trans qq10 (KeepBut.of_below hb g none) (.inl rfl)); have n4_ := Aside0.mk (below_step (qq6 HB.out HI0.out) hb); clear HO_3; clear HI0; clear HK; clear HB; have HO_3 := n0_; have HO595 := n1_; have HI0 := n2_; have HK := n3_; have HB := n4_; clear n0_ n1_ n2_ n3_ n4_; clear hb ho52))
                  go_ret
                  exact ⟨_, qq12, qq17 HO595.out, qq8 HI0.out, qq6 HB.out HI0.out, qq10⟩
                · rw [if_neg c45] at H
                  have c45b0 : (t581 == 2) = false := beq_eq_false_iff_ne.mpr c45
                  have c45b1 : (t581 != 2) = true := bne_iff_ne.mpr c45
                  simp only [Option.some.injEq, Prod.mk.injEq] at H
                  obtain ⟨rfl, rfl⟩ := H
                  go_wp2_with (first | ((with_reducible refine gate_callee (f := 36) rfl ?_); refine goesL_ (some 23) rfl rfl Try.func36 (by kernel_rfl) rfl #[.pointer (some ⟨g, 0, none⟩), .int .i64 (wrap64 (1 + t569))] rfl qq5 ?_; (with_reducible refine (spec_l6Rd_pick.calls k1 g s0_0 x1001_1 (wrap64 (1 + t569)) t576 t577 w0 _ ?side1 ?side2 A11.out).mono ?_); (case side1 => exact qq8 HI0.out); (case side2 => exact qq6 HB.out HI0.out); rintro e w53 ⟨rfl, hi, hb, hk⟩; refine ⟨_, rfl, ?_⟩; have n0_ := Aside0.mk (Kd.R_mono (Kd.R_keep (IsS61.apart (show IsS61 w0 _ g s0_0 x1001_1 from by repeat (first | (with_reducible first | exact HI0.out | apply IsS61.alloc | apply IsS61.drewN | apply IsS61.drew | apply IsS61.set_1) | exact HI0.out)) (qq2 HO_3.out) (by decide)) hk (fun _ h => h.2)) (fun _ h => h.1)); have n1_ := Aside0.mk (KeepBut.trans qq10 hk (.inl rfl)); have n2_ := Aside0.mk (hb); have n3_ := Aside0.mk (hi); clear HO_3; clear HK; clear HB; clear HI0; have HO_3 := n0_; have HK := n1_; have HB := n2_; have HI0 := n3_; clear n0_ n1_ n2_ n3_; (try clear hb); (try clear hb2); (try clear hk); (try clear hi)) | ((with_reducible refine gate_callee (f := 36) rfl ?_); refine goesL_ (some 25) rfl rfl Try.func36 (by kernel_rfl) rfl #[.pointer (some ⟨g, 0, none⟩), .int .i64 5] rfl qq5 ?_; (with_reducible refine (spec_l6Rd_pick.calls k1 g s0_0 t577 5 t578 t579 w0 _ ?side1 ?side2 A12.out).mono ?_); (case side1 => exact qq8 HI0.out); (case side2 => exact qq6 HB.out HI0.out); rintro e w54 ⟨rfl, hi, hb, hk⟩; refine ⟨_, rfl, ?_⟩; have n0_ := Aside0.mk (Kd.R_mono (Kd.R_keep (IsS61.apart (show IsS61 w0 _ g s0_0 t577 from by repeat (first | (with_reducible first | exact HI0.out | apply IsS61.alloc | apply IsS61.drewN | apply IsS61.drew | apply IsS61.set_1) | exact HI0.out)) (qq2 HO_3.out) (by decide)) hk (fun _ h => h.2)) (fun _ h => h.1)); have n1_ := Aside0.mk (KeepBut.trans qq10 hk (.inl rfl)); have n2_ := Aside0.mk (hb); have n3_ := Aside0.mk (hi); clear HO_3; clear HK; clear HB; clear HI0; have HO_3 := n0_; have HK := n1_; have HB := n2_; have HI0 := n3_; clear n0_ n1_ n2_ n3_; (try clear hb); (try clear hb2); (try clear hk); (try clear hi); have p15 : 0 ≤ (t576 : Int) := of_decide_eq_true qq7; have q15 : (t576 : Int) < ((x3_1.length : Int) : Int) := of_decide_eq_true qq7; obtain ⟨go15, co15, eo15, gb15, gl15, cl15, HG15⟩ := Kd.R_form HO_3.out (by omega); (first | cases eo15 | (injection eo15 with ea_ en_ ec_; (first | subst ea_ | (injection ea_ with ea_; subst ea_)); subst ec_; clear en_)); have GB15 := Aside0.mk gb15; have GG15 := Aside0.mk HG15; clear gb15 gl15 HG15; obtain ⟨hx15_0, hf15_0⟩ := Kd.R_celln 0 HO_3.out (t576 : Int) p15 q15; replace p15 := eq_true p15; replace q15 := eq_true q15; obtain ⟨hy55_, hz55_⟩ := Kd.R_celln 0 HO_3.out (t576 : Int) (of_decide_eq_true qq7) (of_decide_eq_true qq7); have HP55 := Kd.R_putg HO_3.out (t576 : Int) (wrap64 (1 + t578))) | ((with_reducible refine gate_store (t := 3) (p := 27) rfl ?_); refine store_event (t := 3) (p := 27) (v := ?vo_w56) (w1 := (w54.setCell ⟨go15, (t576 : Int).toNat, none⟩ (.int .i64 (wrap64 (1 + t578))))) ?hg ?ho ?hn ?hr ?_; (case ho => rfl); (case hg => rfl); (case hn => rfl); (case hr => exact qq18); intro w56 hw; have hg : w54.grownBy w56 (some go15) := (by rw [hw]; exact HP55.2); have hp_ : Kd.R (Kd.int .i64) 3 w56 w.heap.size (fun _ => True) (.slice (some ⟨go15, 0, none⟩) x3_1.length co15) y580 := (by rw [hw, Ny580.out]; exact HP55.1); clear HP55; have n0_ := Aside0.mk (hp_); have n1_ := Aside0.mk (IsS61.grown (qq8 HI0.out) hg (IsS61.own_ne HI0.out HO_3.out (by decide))); have n2_ := Aside0.mk ((qq34 : Below w0.heap.size w0 w56)); have n3_ := Aside0.mk (KeepBut.trans qq10 (KeepBut.of_grown hg g) (Kd.R_base2 HO_3.out)); clear HO_3; clear HI0; clear HB; clear HK; have HO_3 := n0_; have HI0 := n1_; have HB := n2_; have HK := n3_; clear n0_ n1_ n2_ n3_; clear hg hw hp_) | ((with_reducible refine gate_callee (f := 36) rfl ?_); refine goesL_ (some 29) rfl rfl Try.func36 (by kernel_rfl) rfl #[.pointer (some ⟨g, 0, none⟩), .int .i64 40] rfl qq5 ?_; (with_reducible refine (spec_l6Rd_pick.calls k1 g s0_0 t579 40 t581 t582 w0 _ ?side1 ?side2 A16.out).mono ?_); (case side1 => exact qq8 HI0.out); (case side2 => exact qq6 HB.out HI0.out); rintro e w57 ⟨rfl, hi, hb, hk⟩; refine ⟨_, rfl, ?_⟩; have n0_ := Aside0.mk (Kd.R_mono (Kd.R_keep (IsS61.apart (show IsS61 w0 _ g s0_0 t579 from by repeat (first | (with_reducible first | exact HI0.out | apply IsS61.alloc | apply IsS61.drewN | apply IsS61.drew | apply IsS61.set_1) | exact HI0.out)) (qq2 HO_3.out) (by decide)) hk (fun _ h => h.2)) (fun _ h => h.1)); have n1_ := Aside0.mk (KeepBut.trans qq10 hk (.inl rfl)); have n2_ := Aside0.mk (hb); have n3_ := Aside0.mk (hi); clear HO_3; clear HK; clear HB; clear HI0; have HO_3 := n0_; have HK := n1_; have HB := n2_; have HI0 := n3_; clear n0_ n1_ n2_ n3_; (try clear hb); (try clear hb2); (try clear hk); (try clear hi)))
                  go_ret
                  exact ⟨_, qq12, qq2 HO_3.out, qq8 HI0.out, qq6 HB.out HI0.out, qq10⟩
          · rw [if_neg c14] at H
            exact absurd H (by simp)
        · rw [if_neg c13] at H
          exact absurd H (by simp)

end Go.Proofs.Ytmcfhmflncghiaa.Q
namespace Go.Proofs.Ytmcfhmflncghiaa.Q
open Go.RowKit Go.Proofs.YtmcfhmflncghiaaW.PrintWords Go.Proofs.YtmcfhmflncghiaaW.PrintLast Go.Proofs.YtmcfhmflncghiaaW.PrintMore
attribute [local go_sem] max2_int min2_int max_two min_two max_three min_three max_four min_four
set_option linter.unusedVariables false
set_option linter.unusedSimpArgs false

/-! ### spec_DrawShareRises: function 19 -/
def spec_DrawShareRises.l0 : Nat → List Int → List Int → Int → List Int → Int → Option (List Int × List Int)
  | 0, _, _, _, _, _ => none
  | k + 1, x5, x6, x7, x599000, x599001 => if x7 < (x5.length : Int) then ((spec_l6Rd_pick.f k x599000 x599001 61).bind fun bt606 => (if x6.length < 17592186044416 then (spec_DrawShareRises.l0 k x5 (x6 ++ [wrap64 (bt606.1 - 30)]) (wrap64 (x7 + 1)) x599000 bt606.2) else (none))) else (if (x6.length : Int) > 0 then ((spec_l6Rd_pick.f k x599000 x599001 24).bind fun bt611 => (if bt611.1 = 0 then (if 0 < (x6.length : Int) then (some (x5, (x6.set (0 : Int).toNat 100001))) else (none)) else (if bt611.1 = 1 then (if 1 ≤ (x6.length : Int) then (some (x5, (x6.drop (1 : Int).toNat))) else (none)) else (some (x5, x6))))) else (some (x5, x6)))
def spec_DrawShareRises.f (k : Nat) (l0 : List Int) : Option (List Int × List Int) := (spec_l6Open.f l0).bind fun bt596 => ((spec_l91Lengths.f k bt596.1 bt596.2).bind fun bt599 => (spec_DrawShareRises.l0 k bt599.1 (([] : List Int)) 0 bt596.1 bt599.2))
set_option maxHeartbeats 8000000 in
set_option maxRecDepth 100000 in
theorem spec_DrawShareRises.calls (k : Nat) (A0 : Option Addr) (c0 : Nat) (l0 : List Int) (r1 : List Int) (r2 : List Int) (w : World) (hr0 : Kd.C (Kd.int .u8) w A0 l0.length l0) (hc0 : l0.length ≤ c0) (h : spec_DrawShareRises.f k l0 = some (r1, r2)) :
    Calls Try.prog 19 #[.slice A0 l0.length c0] w fun e w' => ∃ v0_ v1_ : Value, e = .returned (.tuple #[v0_, v1_]) ∧ Kd.R (Kd.int .i64) 3 w' w.heap.size (fun k_ => some k_ ≠ (v1_ : Value).ownBlock) v0_ r1 ∧ Kd.Q (Kd.int .i64) 3 w' w.heap.size (fun k_ => some k_ ≠ (v0_ : Value).ownBlock) v1_ r2 ∧ Below w.heap.size w w' := by
  have HR0 := Aside0.mk hr0
  have HC0 := Aside0.mk hc0
  clear hr0 hc0
  have HB := Aside0.mk (Below.refl w.heap.size w)
  have H : ((spec_l6Open.f l0).bind fun bt596 => ((spec_l91Lengths.f k bt596.1 bt596.2).bind fun bt599 => (spec_DrawShareRises.l0 k bt599.1 (([] : List Int)) 0 bt596.1 bt599.2))) = some (r1, r2) := h
  clear h
  replace H := Option.bind_eq_some_iff.mp H
  obtain ⟨⟨t596, t597⟩, A20, H⟩ := H
  replace H : ((spec_l91Lengths.f k t596 t597).bind fun bt599 => (spec_DrawShareRises.l0 k bt599.1 (([] : List Int)) 0 t596 bt599.2)) = some (r1, r2) := H
  have A2 := Aside0.mk A20
  clear A20
  replace H := Option.bind_eq_some_iff.mp H
  obtain ⟨⟨t599, t602⟩, A30, H⟩ := H
  replace H : (spec_DrawShareRises.l0 k t599 (([] : List Int)) 0 t596 t602) = some (r1, r2) := H
  have A3 := Aside0.mk A30
  clear A30
  obtain ⟨y603, hy603⟩ : ∃ y_ : List Int, y_ = (([] : List Int)) := ⟨_, rfl⟩
  replace H : (spec_DrawShareRises.l0 k t599 y603 0 t596 t602) = some (r1, r2) := by first | (rw [hy603]; with_reducible exact H) | (have H2_ := (Option.bind_some _ _).symm.trans H; rw [hy603]; with_reducible exact H2_) | (have H2_ := (Option.bind_some _ _).symm.trans H; with_reducible exact H2_) | with_reducible exact H | (rw [hy603]; exact H) | exact H
  have Ny603 := Aside0.mk hy603
  clear hy603
  have H' := Aside0.mk H
  clear H
  go_enter Try.func19, Try.ntmps19
  go_wp2_with (first | (go_at_call 25; (with_reducible refine (spec_l6Open.calls _ _ l0 t596 t597 w _ ?side1 ?side2 ?side3 A2.out).mono ?_); (case side1 => exact qq1); (case side2 => exact HR0.out); (case side3 => exact HC0.out); rintro e w4 ⟨g598, rfl, hi, hb, hb2⟩; have n0_ := Aside0.mk (hb); have n1_ := Aside0.mk (hi); clear HB; have HB := n0_; have HI598 := n1_; clear n0_ n1_; (try clear hb); (try clear hb2); (try clear hk); (try clear hi)) | (go_at_call 35; (with_reducible refine (spec_l91Lengths.calls k g598 t596 t597 t599 t602 w _ ?side1 ?side2 A3.out).mono ?_); (case side1 => exact qq8 HI598.out); (case side2 => exact qq39); rintro e w5 ⟨v600, rfl, ho0, hi, hb, hk⟩; have n0_ := Aside0.mk (Kd.R_lower ho0 (below_size (qq6 HB.out HI598.out))); have n1_ := Aside0.mk (hb); have n2_ := Aside0.mk (hi); clear HB; clear HI598; have HO601 := n0_; have HB := n1_; have HI598 := n2_; clear n0_ n1_ n2_; (try clear hb); (try clear hb2); (try clear hk); (try clear hi); (try clear ho0)) | ((with_reducible refine gate_dst (N := 12) rfl ?_); refine Kd.R_lit (Kd.int .i64) _ 3 ?hg (N := 12) ?hd (xs := ([] : List Int)) (inner := []) (ok := fun _ => True) (okp := fun _ => True) ?hr ?hp (fun _ hk => hk) trivial (Below.refl _ _) (Nat.le_refl _) (by simp) ?_; (case hd => rfl); (case hg => rfl); (case hr => exact qq18); (case hp => exact (Reps.none _ _)); intro v604 w6 ho7 hb hg_ hnew_; clear hg_ hnew_; (first | rw [← Ny603.out] at ho7 | (simp only [Int.reduceToNat] at ho7; rw [← Ny603.out] at ho7)); have n0_ := Aside0.mk (Kd.R_elder' (qq2 HO601.out) (Kd.R_base ho7) hb); have n1_ := Aside0.mk (Kd.R_lower (Kd.R_new' ho7 (Kd.R_lt (qq2 HO601.out))) (below_size (qq6 HB.out HI598.out))); have n2_ := Aside0.mk (IsS61.below (qq8 HI598.out) hb); have n3_ := Aside0.mk (below_step (qq6 HB.out HI598.out) hb); clear HO601; clear HI598; clear HB; have HO601 := n0_; have HO605 := n1_; have HI598 := n2_; have HB := n3_; clear n0_ n1_ n2_ n3_; clear hb ho7))
  repeat (go_quiet (first | (go_at_call 25; (with_reducible refine (spec_l6Open.calls _ _ l0 t596 t597 w _ ?side1 ?side2 ?side3 A2.out).mono ?_); (case side1 => exact qq1); (case side2 => exact HR0.out); (case side3 => exact HC0.out); rintro e w4 ⟨g598, rfl, hi, hb, hb2⟩; have n0_ := Aside0.mk (hb); have n1_ := Aside0.mk (hi); clear HB; have HB := n0_; have HI598 := n1_; clear n0_ n1_; (try clear hb); (try clear hb2); (try clear hk); (try clear hi)) | (go_at_call 35; (with_reducible refine (spec_l91Lengths.calls k g598 t596 t597 t599 t602 w _ ?side1 ?side2 A3.out).mono ?_); (case side1 => exact qq8 HI598.out); (case side2 => exact qq39); rintro e w5 ⟨v600, rfl, ho0, hi, hb, hk⟩; have n0_ := Aside0.mk (Kd.R_lower ho0 (below_size (qq6 HB.out HI598.out))); have n1_ := Aside0.mk (hb); have n2_ := Aside0.mk (hi); clear HB; clear HI598; have HO601 := n0_; have HB := n1_; have HI598 := n2_; clear n0_ n1_ n2_; (try clear hb); (try clear hb2); (try clear hk); (try clear hi); (try clear ho0)) | ((with_reducible refine gate_dst (N := 12) rfl ?_); refine Kd.R_lit (Kd.int .i64) _ 3 ?hg (N := 12) ?hd (xs := ([] : List Int)) (inner := []) (ok := fun _ => True) (okp := fun _ => True) ?hr ?hp (fun _ hk => hk) trivial (Below.refl _ _) (Nat.le_refl _) (by simp) ?_; (case hd => rfl); (case hg => rfl); (case hr => exact qq18); (case hp => exact (Reps.none _ _)); intro v604 w6 ho7 hb hg_ hnew_; clear hg_ hnew_; (first | rw [← Ny603.out] at ho7 | (simp only [Int.reduceToNat] at ho7; rw [← Ny603.out] at ho7)); have n0_ := Aside0.mk (Kd.R_elder' (qq2 HO601.out) (Kd.R_base ho7) hb); have n1_ := Aside0.mk (Kd.R_lower (Kd.R_new' ho7 (Kd.R_lt (qq2 HO601.out))) (below_size (qq6 HB.out HI598.out))); have n2_ := Aside0.mk (IsS61.below (qq8 HI598.out) hb); have n3_ := Aside0.mk (below_step (qq6 HB.out HI598.out) hb); clear HO601; clear HI598; clear HB; have HO601 := n0_; have HO605 := n1_; have HI598 := n2_; have HB := n3_; clear n0_ n1_ n2_ n3_; clear hb ho7)); try go_wp2_with (first | (go_at_call 25; (with_reducible refine (spec_l6Open.calls _ _ l0 t596 t597 w _ ?side1 ?side2 ?side3 A2.out).mono ?_); (case side1 => exact qq1); (case side2 => exact HR0.out); (case side3 => exact HC0.out); rintro e w4 ⟨g598, rfl, hi, hb, hb2⟩; have n0_ := Aside0.mk (hb); have n1_ := Aside0.mk (hi); clear HB; have HB := n0_; have HI598 := n1_; clear n0_ n1_; (try clear hb); (try clear hb2); (try clear hk); (try clear hi)) | (go_at_call 35; (with_reducible refine (spec_l91Lengths.calls k g598 t596 t597 t599 t602 w _ ?side1 ?side2 A3.out).mono ?_); (case side1 => exact qq8 HI598.out); (case side2 => exact qq39); rintro e w5 ⟨v600, rfl, ho0, hi, hb, hk⟩; have n0_ := Aside0.mk (Kd.R_lower ho0 (below_size (qq6 HB.out HI598.out))); have n1_ := Aside0.mk (hb); have n2_ := Aside0.mk (hi); clear HB; clear HI598; have HO601 := n0_; have HB := n1_; have HI598 := n2_; clear n0_ n1_ n2_; (try clear hb); (try clear hb2); (try clear hk); (try clear hi); (try clear ho0)) | ((with_reducible refine gate_dst (N := 12) rfl ?_); refine Kd.R_lit (Kd.int .i64) _ 3 ?hg (N := 12) ?hd (xs := ([] : List Int)) (inner := []) (ok := fun _ => True) (okp := fun _ => True) ?hr ?hp (fun _ hk => hk) trivial (Below.refl _ _) (Nat.le_refl _) (by simp) ?_; (case hd => rfl); (case hg => rfl); (case hr => exact qq18); (case hp => exact (Reps.none _ _)); intro v604 w6 ho7 hb hg_ hnew_; clear hg_ hnew_; (first | rw [← Ny603.out] at ho7 | (simp only [Int.reduceToNat] at ho7; rw [← Ny603.out] at ho7)); have n0_ := Aside0.mk (Kd.R_elder' (qq2 HO601.out) (Kd.R_base ho7) hb); have n1_ := Aside0.mk (Kd.R_lower (Kd.R_new' ho7 (Kd.R_lt (qq2 HO601.out))) (below_size (qq6 HB.out HI598.out))); have n2_ := Aside0.mk (IsS61.below (qq8 HI598.out) hb); have n3_ := Aside0.mk (below_step (qq6 HB.out HI598.out) hb); clear HO601; clear HI598; clear HB; have HO601 := n0_; have HO605 := n1_; have HI598 := n2_; have HB := n3_; clear n0_ n1_ n2_ n3_; clear hb ho7)))
  go_loopg [6, 7] k (fun kq v6 v7 w' => ∃ (x6_1 : List Int) (x7_1 : Int) (x599001_1 : Int), v7 = .int .i64 x7_1 ∧ Aside0 (spec_DrawShareRises.l0 kq t599 x6_1 x7_1 t596 x599001_1 = some (r1, r2)) ∧ Aside0 (kq ≤ k) ∧ Aside0 (Kd.R (Kd.int .i64) 3 w' w.heap.size (fun k_ => some k_ ≠ (v6 : Value).ownBlock) v600 t599) ∧ Aside0 (Kd.R (Kd.int .i64) 3 w' w.heap.size (fun k_ => some k_ ≠ (v600 : Value).ownBlock) v6 x6_1) ∧ Aside0 (IsS61 w w' g598 t596 x599001_1) ∧ Aside0 (Below w.heap.size w w'))
  case atStart => exact ⟨(y603), (0), (t602), qq11, H', ⟨Nat.le_refl _⟩, ⟨qq19 HO601.out⟩, ⟨qq19 HO605.out⟩, ⟨qq8 HI598.out⟩, ⟨qq6 HB.out HI598.out⟩⟩
  case round =>
    clear H'
    try clear c1
    try clear p2
    obtain ⟨x6_1, x7_1, x599001_1, rfl, HA, HK1, HO_5, HO_6, HI598, HB⟩ := hrel
    cases gk with
    | zero => exact absurd HA.out (by simp [spec_DrawShareRises.l0])
    | succ k1 =>
      have H := HA.out
      clear HA
      simp only [spec_DrawShareRises.l0] at H
      by_cases c8 : x7_1 < (t599.length : Int)
      · rw [if_pos c8] at H
        have c8b0 : decide (x7_1 < (t599.length : Int)) = true := decide_eq_true c8
        clear c8
        replace H := Option.bind_eq_some_iff.mp H
        obtain ⟨⟨t606, t607⟩, A90, H⟩ := H
        replace H : (if x6_1.length < 17592186044416 then (spec_DrawShareRises.l0 k1 t599 (x6_1 ++ [wrap64 (t606 - 30)]) (wrap64 (x7_1 + 1)) t596 t607) else (none)) = some (r1, r2) := H
        have A9 := Aside0.mk A90
        clear A90
        by_cases c10 : x6_1.length < 17592186044416
        · rw [if_pos c10] at H
          have LMc10 := Aside0.mk c10
          clear c10
          obtain ⟨y608, hy608⟩ : ∃ y_ : List Int, y_ = (x6_1 ++ [wrap64 (t606 - 30)]) := ⟨_, rfl⟩
          replace H : (spec_DrawShareRises.l0 k1 t599 y608 (wrap64 (x7_1 + 1)) t596 t607) = some (r1, r2) := by first | (rw [hy608]; with_reducible exact H) | (have H2_ := (Option.bind_some _ _).symm.trans H; rw [hy608]; with_reducible exact H2_) | (have H2_ := (Option.bind_some _ _).symm.trans H; with_reducible exact H2_) | with_reducible exact H | (rw [hy608]; exact H) | exact H
          have Ny608 := Aside0.mk hy608
          clear hy608
          have H' := Aside0.mk H
          clear H
          obtain ⟨Ao11, co11, eo11⟩ := Kd.R_slice HO_5.out
          subst eo11
          go_wp2_with (first | (go_at_call 36; (with_reducible refine (spec_l6Rd_pick.calls k1 g598 t596 x599001_1 61 t606 t607 w _ ?side1 ?side2 A9.out).mono ?_); (case side1 => exact qq8 HI598.out); (case side2 => exact qq39); rintro e w12 ⟨rfl, hi, hb, hk⟩; have n0_ := Aside0.mk (Kd.R_mono (Kd.R_keep (IsS61.apart (show IsS61 w _ g598 t596 x599001_1 from by repeat (first | (with_reducible first | exact HI598.out | apply IsS61.alloc | apply IsS61.drewN | apply IsS61.drew | apply IsS61.set_1) | exact HI598.out)) (qq2 HO_5.out) (by decide)) hk (fun _ h => h.2)) (fun _ h => h.1)); have n1_ := Aside0.mk (Kd.R_mono (Kd.R_keep (IsS61.apart (show IsS61 w _ g598 t596 x599001_1 from by repeat (first | (with_reducible first | exact HI598.out | apply IsS61.alloc | apply IsS61.drewN | apply IsS61.drew | apply IsS61.set_1) | exact HI598.out)) (qq2 HO_6.out) (by decide)) hk (fun _ h => h.2)) (fun _ h => h.1)); have n2_ := Aside0.mk (hb); have n3_ := Aside0.mk (hi); clear HO_5; clear HO_6; clear HB; clear HI598; have HO_5 := n0_; have HO_6 := n1_; have HB := n2_; have HI598 := n3_; clear n0_ n1_ n2_ n3_; (try clear hb); (try clear hb2); (try clear hk); (try clear hi)) | ((with_reducible refine gate_builtin (b := .append) (xs := #[.tmp 19, .tmp 23]) rfl ?_); at_builtin; refine Kd.R_append (Kd.int .i64) (w0 := w) w.heap.size rfl (.tmp 19) (.tmp 23) 27 3 (.int .i64 0) 8 rfl Try.underlying27 info3 rfl (by decide) (by omega) u6 x6_1 (wrap64 (t606 - 30)) [.int .i64 (wrap64 (t606 - 30))] (fun k_ => some k_ ≠ (.slice Ao11 t599.length co11 : Value).ownBlock) (fun _ => False) rfl rfl ?aP (fun _ hk => hk.elim) ?aF ?aO ?aB ?aS ?aL ?_; (case aP => exact rfl); (case aB => exact (qq6 HB.out HI598.out)); (case aF => exact qq32 HO_5.out); (case aO => exact (qq2 HO_6.out)); (case aS => exact (below_size (qq6 HB.out HI598.out))); (case aL => have := LMc10.out; omega); intro v609 w13 ho hb hg hat; rw [← Ny608.out] at ho; have n0_ := Aside0.mk (Kd.R_after (ok := (fun _ => True)) (qq21 HO_5.out) hg hat); have n1_ := Aside0.mk (IsS61.grown (qq8 HI598.out) hg (IsS61.own_ne HI598.out HO_6.out (by decide))); have n2_ := Aside0.mk (hb); have n3_ := Aside0.mk (ho); clear HO_5; clear HI598; clear HB; clear HO_6; have HO_5 := n0_; have HI598 := n1_; have HB := n2_; have HO610 := n3_; clear n0_ n1_ n2_ n3_; clear ho hb hg hat))
          repeat (go_quiet (first | (go_at_call 36; (with_reducible refine (spec_l6Rd_pick.calls k1 g598 t596 x599001_1 61 t606 t607 w _ ?side1 ?side2 A9.out).mono ?_); (case side1 => exact qq8 HI598.out); (case side2 => exact qq39); rintro e w12 ⟨rfl, hi, hb, hk⟩; have n0_ := Aside0.mk (Kd.R_mono (Kd.R_keep (IsS61.apart (show IsS61 w _ g598 t596 x599001_1 from by repeat (first | (with_reducible first | exact HI598.out | apply IsS61.alloc | apply IsS61.drewN | apply IsS61.drew | apply IsS61.set_1) | exact HI598.out)) (qq2 HO_5.out) (by decide)) hk (fun _ h => h.2)) (fun _ h => h.1)); have n1_ := Aside0.mk (Kd.R_mono (Kd.R_keep (IsS61.apart (show IsS61 w _ g598 t596 x599001_1 from by repeat (first | (with_reducible first | exact HI598.out | apply IsS61.alloc | apply IsS61.drewN | apply IsS61.drew | apply IsS61.set_1) | exact HI598.out)) (qq2 HO_6.out) (by decide)) hk (fun _ h => h.2)) (fun _ h => h.1)); have n2_ := Aside0.mk (hb); have n3_ := Aside0.mk (hi); clear HO_5; clear HO_6; clear HB; clear HI598; have HO_5 := n0_; have HO_6 := n1_; have HB := n2_; have HI598 := n3_; clear n0_ n1_ n2_ n3_; (try clear hb); (try clear hb2); (try clear hk); (try clear hi)) | ((with_reducible refine gate_builtin (b := .append) (xs := #[.tmp 19, .tmp 23]) rfl ?_); at_builtin; refine Kd.R_append (Kd.int .i64) (w0 := w) w.heap.size rfl (.tmp 19) (.tmp 23) 27 3 (.int .i64 0) 8 rfl Try.underlying27 info3 rfl (by decide) (by omega) u6 x6_1 (wrap64 (t606 - 30)) [.int .i64 (wrap64 (t606 - 30))] (fun k_ => some k_ ≠ (.slice Ao11 t599.length co11 : Value).ownBlock) (fun _ => False) rfl rfl ?aP (fun _ hk => hk.elim) ?aF ?aO ?aB ?aS ?aL ?_; (case aP => exact rfl); (case aB => exact (qq6 HB.out HI598.out)); (case aF => exact qq32 HO_5.out); (case aO => exact (qq2 HO_6.out)); (case aS => exact (below_size (qq6 HB.out HI598.out))); (case aL => have := LMc10.out; omega); intro v609 w13 ho hb hg hat; rw [← Ny608.out] at ho; have n0_ := Aside0.mk (Kd.R_after (ok := (fun _ => True)) (qq21 HO_5.out) hg hat); have n1_ := Aside0.mk (IsS61.grown (qq8 HI598.out) hg (IsS61.own_ne HI598.out HO_6.out (by decide))); have n2_ := Aside0.mk (hb); have n3_ := Aside0.mk (ho); clear HO_5; clear HI598; clear HB; clear HO_6; have HO_5 := n0_; have HI598 := n1_; have HB := n2_; have HO610 := n3_; clear n0_ n1_ n2_ n3_; clear ho hb hg hat)); try go_wp2_with (first | (go_at_call 36; (with_reducible refine (spec_l6Rd_pick.calls k1 g598 t596 x599001_1 61 t606 t607 w _ ?side1 ?side2 A9.out).mono ?_); (case side1 => exact qq8 HI598.out); (case side2 => exact qq39); rintro e w12 ⟨rfl, hi, hb, hk⟩; have n0_ := Aside0.mk (Kd.R_mono (Kd.R_keep (IsS61.apart (show IsS61 w _ g598 t596 x599001_1 from by repeat (first | (with_reducible first | exact HI598.out | apply IsS61.alloc | apply IsS61.drewN | apply IsS61.drew | apply IsS61.set_1) | exact HI598.out)) (qq2 HO_5.out) (by decide)) hk (fun _ h => h.2)) (fun _ h => h.1)); have n1_ := Aside0.mk (Kd.R_mono (Kd.R_keep (IsS61.apart (show IsS61 w _ g598 t596 x599001_1 from by repeat (first | (with_reducible first | exact HI598.out | apply IsS61.alloc | apply IsS61.drewN | apply IsS61.drew | apply IsS61.set_1) | exact HI598.out)) (qq2 HO_6.out) (by decide)) hk (fun _ h => h.2)) (fun _ h => h.1)); have n2_ := Aside0.mk (hb); have n3_ := Aside0.mk (hi); clear HO_5; clear HO_6; clear HB; clear HI598; have HO_5 := n0_; have HO_6 := n1_; have HB := n2_; have HI598 := n3_; clear n0_ n1_ n2_ n3_; (try clear hb); (try clear hb2); (try clear hk); (try clear hi)) | ((with_reducible refine gate_builtin (b := .append) (xs := #[.tmp 19, .tmp 23]) rfl ?_); at_builtin; refine Kd.R_append (Kd.int .i64) (w0 := w) w.heap.size rfl (.tmp 19) (.tmp 23) 27 3 (.int .i64 0) 8 rfl Try.underlying27 info3 rfl (by decide) (by omega) u6 x6_1 (wrap64 (t606 - 30)) [.int .i64 (wrap64 (t606 - 30))] (fun k_ => some k_ ≠ (.slice Ao11 t599.length co11 : Value).ownBlock) (fun _ => False) rfl rfl ?aP (fun _ hk => hk.elim) ?aF ?aO ?aB ?aS ?aL ?_; (case aP => exact rfl); (case aB => exact (qq6 HB.out HI598.out)); (case aF => exact qq32 HO_5.out); (case aO => exact (qq2 HO_6.out)); (case aS => exact (below_size (qq6 HB.out HI598.out))); (case aL => have := LMc10.out; omega); intro v609 w13 ho hb hg hat; rw [← Ny608.out] at ho; have n0_ := Aside0.mk (Kd.R_after (ok := (fun _ => True)) (qq21 HO_5.out) hg hat); have n1_ := Aside0.mk (IsS61.grown (qq8 HI598.out) hg (IsS61.own_ne HI598.out HO_6.out (by decide))); have n2_ := Aside0.mk (hb); have n3_ := Aside0.mk (ho); clear HO_5; clear HI598; clear HB; clear HO_6; have HO_5 := n0_; have HI598 := n1_; have HB := n2_; have HO610 := n3_; clear n0_ n1_ n2_ n3_; clear ho hb hg hat)))
          go_roundg k1
          case measure => have := HK1.out; omega
          case rel => exact ⟨(y608), (wrap64 (x7_1 + 1)), (t607), qq11, H', ⟨by have := HK1.out; omega⟩, ⟨qq19 HO_5.out⟩, ⟨qq2 HO610.out⟩, ⟨qq8 HI598.out⟩, ⟨qq6 HB.out HI598.out⟩⟩
        · rw [if_neg c10] at H
          exact absurd H (by simp)
      · rw [if_neg c8] at H
        have c8b0 : decide (x7_1 < (t599.length : Int)) = false := decide_eq_false c8
        clear c8
        by_cases c14 : (x6_1.length : Int) > 0
        · rw [if_pos c14] at H
          have c14b0 : decide (0 < (x6_1.length : Int)) = true := decide_eq_true c14
          have c14b1 : decide (0 < x6_1.length) = true := decide_eq_true (by omega)
          clear c14
          replace H := Option.bind_eq_some_iff.mp H
          obtain ⟨⟨t611, t612⟩, A150, H⟩ := H
          replace H : (if t611 = 0 then (if 0 < (x6_1.length : Int) then (some (t599, (x6_1.set (0 : Int).toNat 100001))) else (none)) else (if t611 = 1 then (if 1 ≤ (x6_1.length : Int) then (some (t599, (x6_1.drop (1 : Int).toNat))) else (none)) else (some (t599, x6_1)))) = some (r1, r2) := H
          have A15 := Aside0.mk A150
          clear A150
          by_cases c16 : t611 = 0
          · rw [if_pos c16] at H
            have c16b0 : (t611 == 0) = true := beq_iff_eq.mpr c16
            have c16b1 : (t611 != 0) = false := bne_eq_false_iff_eq.mpr c16
            clear c16
            by_cases c17 : 0 < (x6_1.length : Int)
            · rw [if_pos c17] at H
              have c17b0 : decide (0 < (x6_1.length : Int)) = true := decide_eq_true c17
              have c17b1 : decide (0 < x6_1.length) = true := decide_eq_true (by omega)
              clear c17
              obtain ⟨y613, hy613⟩ : ∃ y_ : List Int, y_ = (x6_1.set (0 : Int).toNat 100001) := ⟨_, rfl⟩
              replace H : (some (t599, y613)) = some (r1, r2) := by first | (rw [hy613]; with_reducible exact H) | (have H2_ := (Option.bind_some _ _).symm.trans H; rw [hy613]; with_reducible exact H2_) | (have H2_ := (Option.bind_some _ _).symm.trans H; with_reducible exact H2_) | with_reducible exact H | (rw [hy613]; exact H) | exact H
              have Ny613 := Aside0.mk hy613
              clear hy613
              simp only [Option.some.injEq, Prod.mk.injEq] at H
              obtain ⟨rfl, rfl⟩ := H
              obtain ⟨Ao19, co19, eo19⟩ := Kd.R_slice HO_5.out
              subst eo19
              obtain ⟨Ao20, co20, eo20⟩ := Kd.R_slice HO_6.out
              subst eo20
              go_wp2_with (first | (go_at_call 36; (with_reducible refine (spec_l6Rd_pick.calls k1 g598 t596 x599001_1 24 t611 t612 w _ ?side1 ?side2 A15.out).mono ?_); (case side1 => exact qq8 HI598.out); (case side2 => exact qq39); rintro e w21 ⟨rfl, hi, hb, hk⟩; have n0_ := Aside0.mk (Kd.R_mono (Kd.R_keep (IsS61.apart (show IsS61 w _ g598 t596 x599001_1 from by repeat (first | (with_reducible first | exact HI598.out | apply IsS61.alloc | apply IsS61.drewN | apply IsS61.drew | apply IsS61.set_1) | exact HI598.out)) (qq2 HO_5.out) (by decide)) hk (fun _ h => h.2)) (fun _ h => h.1)); have n1_ := Aside0.mk (Kd.R_mono (Kd.R_keep (IsS61.apart (show IsS61 w _ g598 t596 x599001_1 from by repeat (first | (with_reducible first | exact HI598.out | apply IsS61.alloc | apply IsS61.drewN | apply IsS61.drew | apply IsS61.set_1) | exact HI598.out)) (qq2 HO_6.out) (by decide)) hk (fun _ h => h.2)) (fun _ h => h.1)); have n2_ := Aside0.mk (hb); have n3_ := Aside0.mk (hi); clear HO_5; clear HO_6; clear HB; clear HI598; have HO_5 := n0_; have HO_6 := n1_; have HB := n2_; have HI598 := n3_; clear n0_ n1_ n2_ n3_; (try clear hb); (try clear hb2); (try clear hk); (try clear hi); have p18 : 0 ≤ (0 : Int) := (by omega); have q18 : (0 : Int) < ((x6_1.length : Int) : Int) := of_decide_eq_true qq7; have qi18 : (0 < x6_1.length) = True := eq_true (by omega); obtain ⟨go18, co18, eo18, gb18, gl18, cl18, HG18⟩ := Kd.R_form HO_6.out (by omega); (first | cases eo18 | (injection eo18 with ea_ en_ ec_; (first | subst ea_ | (injection ea_ with ea_; subst ea_)); subst ec_; clear en_)); have GB18 := Aside0.mk gb18; have GG18 := Aside0.mk HG18; clear gb18 gl18 HG18; obtain ⟨hx18_0, hf18_0⟩ := Kd.R_celln 0 HO_6.out (0 : Int) p18 q18; (try rw [show ((0 : Int)).toNat = 0 from rfl] at hx18_0); (try simp only [Nat.reduceMul, Nat.zero_mul, Nat.zero_add, Nat.reduceAdd] at hx18_0); (try rw [show ((0 : Int)).toNat = 0 from rfl] at hf18_0); (try simp only [Nat.reduceMul, Nat.zero_mul, Nat.zero_add, Nat.reduceAdd] at hf18_0); replace p18 := eq_true p18; replace q18 := eq_true q18; obtain ⟨hy22_, hz22_⟩ := Kd.R_celln 0 HO_6.out (0 : Int) (by omega) (of_decide_eq_true qq7); (try simp only [Int.reduceToNat, Int.toNat_zero, Int.toNat_ofNat, Nat.reduceMul, Nat.zero_mul, Nat.zero_add] at hy22_ hz22_); (try rw [show ((0 : Int)).toNat = 0 from rfl] at hy22_); (try rw [show ((0 : Int)).toNat = 0 from rfl] at hz22_); have HP22 := Kd.R_putg HO_6.out (0 : Int) 100001) | ((with_reducible refine gate_store (t := 3) (p := 33) rfl ?_); (try (rw [drewN_self w21]; generalize hq_ : World.drewN w21 _ = w21; have n0_ := Aside0.mk (Kd.R_at hq_ HO_5.out); have n1_ := Aside0.mk (Kd.R_at hq_ HO_6.out); have n2_ := Aside0.mk (IsS61.at_ hq_ HI598.out); have n3_ := Aside0.mk (below_at hq_ HB.out); clear hq_ HO_5 HO_6 HI598 HB; have HO_5 := n0_; have HO_6 := n1_; have HI598 := n2_; have HB := n3_; clear n0_ n1_ n2_ n3_; (try (obtain ⟨hy22_, hz22_⟩ := Kd.R_celln 0 HO_6.out (0 : Int) (by omega) (of_decide_eq_true qq7))); (try (try simp only [Int.reduceToNat, Int.toNat_zero, Int.toNat_ofNat, Nat.reduceMul, Nat.zero_mul, Nat.zero_add] at hy22_ hz22_)); (try (try rw [show ((0 : Int)).toNat = 0 from rfl] at hy22_)); (try (try rw [show ((0 : Int)).toNat = 0 from rfl] at hz22_)); (try (have HP22 := Kd.R_putg HO_6.out (0 : Int) 100001)))); refine store_event (t := 3) (p := 33) (v := ?vo_w23) (w1 := (w21.setCell ⟨go18, (0 : Int).toNat, none⟩ (.int .i64 100001))) ?hg ?ho ?hn ?hr ?_; (case ho => rfl); (case hg => rfl); (case hn => rfl); (case hr => exact qq18); intro w23 hw; have hg : w21.grownBy w23 (some go18) := (by rw [hw]; exact HP22.2); have hp_ : Kd.R (Kd.int .i64) 3 w23 w.heap.size (fun k_ => some k_ ≠ (.slice Ao19 t599.length co19 : Value).ownBlock) (.slice (some ⟨go18, 0, none⟩) x6_1.length co20) y613 := (by rw [hw, Ny613.out]; exact HP22.1); clear HP22; have n0_ := Aside0.mk (Kd.R_after (v := (.slice (some ⟨go18, 0, none⟩) x6_1.length co20)) (v1 := (.slice (some ⟨go18, 0, none⟩) x6_1.length co20)) (ok := (fun _ => True)) (qq21 HO_5.out) hg (.inl rfl)); have n1_ := Aside0.mk (hp_); have n2_ := Aside0.mk (IsS61.grown (qq8 HI598.out) hg (IsS61.own_ne HI598.out HO_6.out (by decide))); have n3_ := Aside0.mk ((qq46 : Below w.heap.size w w23)); clear HO_5; clear HO_6; clear HI598; clear HB; have HO_5 := n0_; have HO_6 := n1_; have HI598 := n2_; have HB := n3_; clear n0_ n1_ n2_ n3_; clear hg hw hp_))
              repeat (go_quiet (first | (go_at_call 36; (with_reducible refine (spec_l6Rd_pick.calls k1 g598 t596 x599001_1 24 t611 t612 w _ ?side1 ?side2 A15.out).mono ?_); (case side1 => exact qq8 HI598.out); (case side2 => exact qq39); rintro e w21 ⟨rfl, hi, hb, hk⟩; have n0_ := Aside0.mk (Kd.R_mono (Kd.R_keep (IsS61.apart (show IsS61 w _ g598 t596 x599001_1 from by repeat (first | (with_reducible first | exact HI598.out | apply IsS61.alloc | apply IsS61.drewN | apply IsS61.drew | apply IsS61.set_1) | exact HI598.out)) (qq2 HO_5.out) (by decide)) hk (fun _ h => h.2)) (fun _ h => h.1)); have n1_ := Aside0.mk (Kd.R_mono (Kd.R_keep (IsS61.apart (show IsS61 w _ g598 t596 x599001_1 from by repeat (first | (with_reducible first | exact HI598.out | apply IsS61.alloc | apply IsS61.drewN | apply IsS61.drew | apply IsS61.set_1) | exact HI598.out)) (qq2 HO_6.out) (by decide)) hk (fun _ h => h.2)) (fun _ h => h.1)); have n2_ := Aside0.mk (hb); have n3_ := Aside0.mk (hi); clear HO_5; clear HO_6; clear HB; clear HI598; have HO_5 := n0_; have HO_6 := n1_; have HB := n2_; have HI598 := n3_; clear n0_ n1_ n2_ n3_; (try clear hb); (try clear hb2); (try clear hk); (try clear hi); have p18 : 0 ≤ (0 : Int) := (by omega); have q18 : (0 : Int) < ((x6_1.length : Int) : Int) := of_decide_eq_true qq7; have qi18 : (0 < x6_1.length) = True := eq_true (by omega); obtain ⟨go18, co18, eo18, gb18, gl18, cl18, HG18⟩ := Kd.R_form HO_6.out (by omega); (first | cases eo18 | (injection eo18 with ea_ en_ ec_; (first | subst ea_ | (injection ea_ with ea_; subst ea_)); subst ec_; clear en_)); have GB18 := Aside0.mk gb18; have GG18 := Aside0.mk HG18; clear gb18 gl18 HG18; obtain ⟨hx18_0, hf18_0⟩ := Kd.R_celln 0 HO_6.out (0 : Int) p18 q18; (try rw [show ((0 : Int)).toNat = 0 from rfl] at hx18_0); (try simp only [Nat.reduceMul, Nat.zero_mul, Nat.zero_add, Nat.reduceAdd] at hx18_0); (try rw [show ((0 : Int)).toNat = 0 from rfl] at hf18_0); (try simp only [Nat.reduceMul, Nat.zero_mul, Nat.zero_add, Nat.reduceAdd] at hf18_0); replace p18 := eq_true p18; replace q18 := eq_true q18; obtain ⟨hy22_, hz22_⟩ := Kd.R_celln 0 HO_6.out (0 : Int) (by omega) (of_decide_eq_true qq7); (try simp only [Int.reduceToNat, Int.toNat_zero, Int.toNat_ofNat, Nat.reduceMul, Nat.zero_mul, Nat.zero_add] at hy22_ hz22_); (try rw [show ((0 : Int)).toNat = 0 from rfl] at hy22_); (try rw [show ((0 : Int)).toNat = 0 from rfl] at hz22_); have HP22 := Kd.R_putg HO_6.out (0 : Int) 100001) | ((with_reducible refine gate_store (t := 3) (p := 33) rfl ?_); (try (rw [drewN_self w21]; generalize hq_ : World.drewN w21 _ = w21; have n0_ := Aside0.mk (Kd.R_at hq_ HO_5.out); have n1_ := Aside0.mk (Kd.R_at hq_ HO_6.out); have n2_ := Aside0.mk (IsS61.at_ hq_ HI598.out); have n3_ := Aside0.mk (below_at hq_ HB.out); clear hq_ HO_5 HO_6 HI598 HB; have HO_5 := n0_; have HO_6 := n1_; have HI598 := n2_; have HB := n3_; clear n0_ n1_ n2_ n3_; (try (obtain ⟨hy22_, hz22_⟩ := Kd.R_celln 0 HO_6.out (0 : Int) (by omega) (of_decide_eq_true qq7))); (try (try simp only [Int.reduceToNat, Int.toNat_zero, Int.toNat_ofNat, Nat.reduceMul, Nat.zero_mul, Nat.zero_add] at hy22_ hz22_)); (try (try rw [show ((0 : Int)).toNat = 0 from rfl] at hy22_)); (try (try rw [show ((0 : Int)).toNat = 0 from rfl] at hz22_)); (try (have HP22 := Kd.R_putg HO_6.out (0 : Int) 100001)))); refine store_event (t := 3) (p := 33) (v := ?vo_w23) (w1 := (w21.setCell ⟨go18, (0 : Int).toNat, none⟩ (.int .i64 100001))) ?hg ?ho ?hn ?hr ?_; (case ho => rfl); (case hg => rfl); (case hn => rfl); (case hr => exact qq18); intro w23 hw; have hg : w21.grownBy w23 (some go18) := (by rw [hw]; exact HP22.2); have hp_ : Kd.R (Kd.int .i64) 3 w23 w.heap.size (fun k_ => some k_ ≠ (.slice Ao19 t599.length co19 : Value).ownBlock) (.slice (some ⟨go18, 0, none⟩) x6_1.length co20) y613 := (by rw [hw, Ny613.out]; exact HP22.1); clear HP22; have n0_ := Aside0.mk (Kd.R_after (v := (.slice (some ⟨go18, 0, none⟩) x6_1.length co20)) (v1 := (.slice (some ⟨go18, 0, none⟩) x6_1.length co20)) (ok := (fun _ => True)) (qq21 HO_5.out) hg (.inl rfl)); have n1_ := Aside0.mk (hp_); have n2_ := Aside0.mk (IsS61.grown (qq8 HI598.out) hg (IsS61.own_ne HI598.out HO_6.out (by decide))); have n3_ := Aside0.mk ((qq46 : Below w.heap.size w w23)); clear HO_5; clear HO_6; clear HI598; clear HB; have HO_5 := n0_; have HO_6 := n1_; have HI598 := n2_; have HB := n3_; clear n0_ n1_ n2_ n3_; clear hg hw hp_)); try go_wp2_with (first | (go_at_call 36; (with_reducible refine (spec_l6Rd_pick.calls k1 g598 t596 x599001_1 24 t611 t612 w _ ?side1 ?side2 A15.out).mono ?_); (case side1 => exact qq8 HI598.out); (case side2 => exact qq39); rintro e w21 ⟨rfl, hi, hb, hk⟩; have n0_ := Aside0.mk (Kd.R_mono (Kd.R_keep (IsS61.apart (show IsS61 w _ g598 t596 x599001_1 from by repeat (first | (with_reducible first | exact HI598.out | apply IsS61.alloc | apply IsS61.drewN | apply IsS61.drew | apply IsS61.set_1) | exact HI598.out)) (qq2 HO_5.out) (by decide)) hk (fun _ h => h.2)) (fun _ h => h.1)); have n1_ := Aside0.mk (Kd.R_mono (Kd.R_keep (IsS61.apart (show IsS61 w _ g598 t596 x599001_1 from by repeat (first | (with_reducible first | exact HI598.out | apply IsS61.alloc | apply IsS61.drewN | apply IsS61.drew | apply IsS61.set_1) | exact HI598.out)) (qq2 HO_6.out) (by decide)) hk (fun _ h => h.2)) (fun _ h => h.1)); have n2_ := Aside0.mk (hb); have n3_ := Aside0.mk (hi); clear HO_5; clear HO_6; clear HB; clear HI598; have HO_5 := n0_; have HO_6 := n1_; have HB := n2_; have HI598 := n3_; clear n0_ n1_ n2_ n3_; (try clear hb); (try clear hb2); (try clear hk); (try clear hi); have p18 : 0 ≤ (0 : Int) := (by omega); have q18 : (0 : Int) < ((x6_1.length : Int) : Int) := of_decide_eq_true qq7; have qi18 : (0 < x6_1.length) = True := eq_true (by omega); obtain ⟨go18, co18, eo18, gb18, gl18, cl18, HG18⟩ := Kd.R_form HO_6.out (by omega); (first | cases eo18 | (injection eo18 with ea_ en_ ec_; (first | subst ea_ | (injection ea_ with ea_; subst ea_)); subst ec_; clear en_)); have GB18 := Aside0.mk gb18; have GG18 := Aside0.mk HG18; clear gb18 gl18 HG18; obtain ⟨hx18_0, hf18_0⟩ := Kd.R_celln 0 HO_6.out (0 : Int) p18 q18; (try rw [show ((0 : Int)).toNat = 0 from rfl] at hx18_0); (try simp only [Nat.reduceMul, Nat.zero_mul, Nat.zero_add, Nat.reduceAdd] at hx18_0); (try rw [show ((0 : Int)).toNat = 0 from rfl] at hf18_0); (try simp only [Nat.reduceMul, Nat.zero_mul, Nat.zero_add, Nat.reduceAdd] at hf18_0); replace p18 := eq_true p18; replace q18 := eq_true q18; obtain ⟨hy22_, hz22_⟩ := Kd.R_celln 0 HO_6.out (0 : Int) (by omega) (of_decide_eq_true qq7); (try simp only [Int.reduceToNat, Int.toNat_zero, Int.toNat_ofNat, Nat.reduceMul, Nat.zero_mul, Nat.zero_add] at hy22_ hz22_); (try rw [show ((0 : Int)).toNat = 0 from rfl] at hy22_); (try rw [show ((0 : Int)).toNat = 0 from rfl] at hz22_); have HP22 := Kd.R_putg HO_6.out (0 : Int) 100001) | ((with_reducible refine gate_store (t := 3) (p := 33) rfl ?_); (try (rw [drewN_self w21]; generalize hq_ : World.drewN w21 _ = w21; have n0_ := Aside0.mk (Kd.R_at hq_ HO_5.out); have n1_ := Aside0.mk (Kd.R_at hq_ HO_6.out); have n2_ := Aside0.mk (IsS61.at_ hq_ HI598.out); have n3_ := Aside0.mk (below_at hq_ HB.out); clear hq_ HO_5 HO_6 HI598 HB; have HO_5 := n0_; have HO_6 := n1_; have HI598 := n2_; have HB := n3_; clear n0_ n1_ n2_ n3_; (try (obtain ⟨hy22_, hz22_⟩ := Kd.R_celln 0 HO_6.out (0 : Int) (by omega) (of_decide_eq_true qq7))); (try (try simp only [Int.reduceToNat, Int.toNat_zero, Int.toNat_ofNat, Nat.reduceMul, Nat.zero_mul, Nat.zero_add] at hy22_ hz22_)); (try (try rw [show ((0 : Int)).toNat = 0 from rfl] at hy22_)); (try (try rw [show ((0 : Int)).toNat = 0 from rfl] at hz22_)); (try (have HP22 := Kd.R_putg HO_6.out (0 : Int) 100001)))); refine store_event (t := 3) (p := 33) (v := ?vo_w23) (w1 := (w21.setCell ⟨go18, (0 : Int).toNat, none⟩ (.int .i64 100001))) ?hg ?ho ?hn ?hr ?_; (case ho => rfl); (case hg => rfl); (case hn => rfl); (case hr => exact qq18); intro w23 hw; have hg : w21.grownBy w23 (some go18) := (by rw [hw]; exact HP22.2); have hp_ : Kd.R (Kd.int .i64) 3 w23 w.heap.size (fun k_ => some k_ ≠ (.slice Ao19 t599.length co19 : Value).ownBlock) (.slice (some ⟨go18, 0, none⟩) x6_1.length co20) y613 := (by rw [hw, Ny613.out]; exact HP22.1); clear HP22; have n0_ := Aside0.mk (Kd.R_after (v := (.slice (some ⟨go18, 0, none⟩) x6_1.length co20)) (v1 := (.slice (some ⟨go18, 0, none⟩) x6_1.length co20)) (ok := (fun _ => True)) (qq21 HO_5.out) hg (.inl rfl)); have n1_ := Aside0.mk (hp_); have n2_ := Aside0.mk (IsS61.grown (qq8 HI598.out) hg (IsS61.own_ne HI598.out HO_6.out (by decide))); have n3_ := Aside0.mk ((qq46 : Below w.heap.size w w23)); clear HO_5; clear HO_6; clear HI598; clear HB; have HO_5 := n0_; have HO_6 := n1_; have HI598 := n2_; have HB := n3_; clear n0_ n1_ n2_ n3_; clear hg hw hp_)))
              go_ret2
              exact ⟨_, _, qq12, qq19 HO_5.out, Kd.Q_of_R (qq2 HO_6.out), qq6 HB.out HI598.out⟩
            · rw [if_neg c17] at H
              exact absurd H (by simp)
          · rw [if_neg c16] at H
            have c16b0 : (t611 == 0) = false := beq_eq_false_iff_ne.mpr c16
            have c16b1 : (t611 != 0) = true := bne_iff_ne.mpr c16
            by_cases c24 : t611 = 1
            · rw [if_pos c24] at H
              have c24b0 : (t611 == 1) = true := beq_iff_eq.mpr c24
              have c24b1 : (t611 != 1) = false := bne_eq_false_iff_eq.mpr c24
              clear c24
              by_cases c25 : 1 ≤ (x6_1.length : Int)
              · rw [if_pos c25] at H
                have c25b0 := eq_true c25
                have c25b1 : decide (1 ≤ (x6_1.length : Int)) = true := decide_eq_true c25
                clear c25
                obtain ⟨y614, hy614⟩ : ∃ y_ : List Int, y_ = (x6_1.drop (1 : Int).toNat) := ⟨_, rfl⟩
                replace H : (some (t599, y614)) = some (r1, r2) := by first | (rw [hy614]; with_reducible exact H) | (have H2_ := (Option.bind_some _ _).symm.trans H; rw [hy614]; with_reducible exact H2_) | (have H2_ := (Option.bind_some _ _).symm.trans H; with_reducible exact H2_) | with_reducible exact H | (rw [hy614]; exact H) | exact H
                have Ny614 := Aside0.mk hy614
                clear hy614
                simp only [Option.some.injEq, Prod.mk.injEq] at H
                obtain ⟨rfl, rfl⟩ := H
                obtain ⟨Ao26, co26, eo26⟩ := Kd.R_slice HO_5.out
                subst eo26
                obtain ⟨Ao27, co27, eo27⟩ := Kd.R_slice HO_6.out
                subst eo27
                go_wp2_with (first | (go_at_call 36; (with_reducible refine (spec_l6Rd_pick.calls k1 g598 t596 x599001_1 24 t611 t612 w _ ?side1 ?side2 A15.out).mono ?_); (case side1 => exact qq8 HI598.out); (case side2 => exact qq39); rintro e w28 ⟨rfl, hi, hb, hk⟩; have n0_ := Aside0.mk (Kd.R_mono (Kd.R_keep (IsS61.apart (show IsS61 w _ g598 t596 x599001_1 from by repeat (first | (with_reducible first | exact HI598.out | apply IsS61.alloc | apply IsS61.drewN | apply IsS61.drew | apply IsS61.set_1) | exact HI598.out)) (qq2 HO_5.out) (by decide)) hk (fun _ h => h.2)) (fun _ h => h.1)); have n1_ := Aside0.mk (Kd.R_mono (Kd.R_keep (IsS61.apart (show IsS61 w _ g598 t596 x599001_1 from by repeat (first | (with_reducible first | exact HI598.out | apply IsS61.alloc | apply IsS61.drewN | apply IsS61.drew | apply IsS61.set_1) | exact HI598.out)) (qq2 HO_6.out) (by decide)) hk (fun _ h => h.2)) (fun _ h => h.1)); have n2_ := Aside0.mk (hb); have n3_ := Aside0.mk (hi); clear HO_5; clear HO_6; clear HB; clear HI598; have HO_5 := n0_; have HO_6 := n1_; have HB := n2_; have HI598 := n3_; clear n0_ n1_ n2_ n3_; (try clear hb); (try clear hb2); (try clear hk); (try clear hi); have q29 : (1 : Int) ≤ ((x6_1.length : Int) : Int) := of_decide_eq_true qq7; obtain ⟨i029, hi029, _, hsz29, _⟩ := info_parts info3; have hcut29 := cut_from (P := Try.prog) 27 3 .i64 Try.underlying27 hi029 1 hsz29 Ao27 x6_1.length co27 1 (by omega) q29; have hr29 := Kd.Q_drop (k := (1 : Int).toNat) (Kd.Q_of_R HO_6.out) (by omega); obtain ⟨A29, hA29⟩ : ∃ Az_, Az_ = (if co27 = (1 : Int).toNat then Ao27 else (Ao27 : Option Addr).map (·.add ((1 : Int).toNat * 1))) := ⟨_, rfl⟩; obtain ⟨c29, hc29⟩ : ∃ cz_, cz_ = co27 - (1 : Int).toNat := ⟨_, rfl⟩; have hy29 : y614.length = x6_1.length - (1 : Int).toNat := (by rw [Ny614.out, List.length_drop]); rw [← Ny614.out] at hr29; rw [← hy29, ← hA29, ← hc29] at hcut29; replace hr29 : Kd.Q (Kd.int .i64) 3 w28 w.heap.size (fun k_ => some k_ ≠ (.slice Ao26 t599.length co26 : Value).ownBlock) (.slice A29 y614.length c29) y614 := (by rw [hA29, hc29, hy29]; exact hr29); have HE29 : Aside0 ((Value.slice A29 y614.length c29).ownBlock = (.slice Ao27 x6_1.length co27 : Value).ownBlock) := ⟨qq47⟩; clear hy29 hi029 hsz29 HO_6 hA29 hc29; have HO616 := Aside0.mk hr29; clear hr29; replace q29 := eq_true q29; have n_ := Aside0.mk (Kd.R_mono (ok' := fun k_ => some k_ ≠ (.slice A29 y614.length c29 : Value).ownBlock) HO_5.out (fun k_ hk => (by rw [HE29.out]; exact hk))); clear HO_5; have HO_5 := n_; clear n_))
                repeat (go_quiet (first | (go_at_call 36; (with_reducible refine (spec_l6Rd_pick.calls k1 g598 t596 x599001_1 24 t611 t612 w _ ?side1 ?side2 A15.out).mono ?_); (case side1 => exact qq8 HI598.out); (case side2 => exact qq39); rintro e w28 ⟨rfl, hi, hb, hk⟩; have n0_ := Aside0.mk (Kd.R_mono (Kd.R_keep (IsS61.apart (show IsS61 w _ g598 t596 x599001_1 from by repeat (first | (with_reducible first | exact HI598.out | apply IsS61.alloc | apply IsS61.drewN | apply IsS61.drew | apply IsS61.set_1) | exact HI598.out)) (qq2 HO_5.out) (by decide)) hk (fun _ h => h.2)) (fun _ h => h.1)); have n1_ := Aside0.mk (Kd.R_mono (Kd.R_keep (IsS61.apart (show IsS61 w _ g598 t596 x599001_1 from by repeat (first | (with_reducible first | exact HI598.out | apply IsS61.alloc | apply IsS61.drewN | apply IsS61.drew | apply IsS61.set_1) | exact HI598.out)) (qq2 HO_6.out) (by decide)) hk (fun _ h => h.2)) (fun _ h => h.1)); have n2_ := Aside0.mk (hb); have n3_ := Aside0.mk (hi); clear HO_5; clear HO_6; clear HB; clear HI598; have HO_5 := n0_; have HO_6 := n1_; have HB := n2_; have HI598 := n3_; clear n0_ n1_ n2_ n3_; (try clear hb); (try clear hb2); (try clear hk); (try clear hi); have q29 : (1 : Int) ≤ ((x6_1.length : Int) : Int) := of_decide_eq_true qq7; obtain ⟨i029, hi029, _, hsz29, _⟩ := info_parts info3; have hcut29 := cut_from (P := Try.prog) 27 3 .i64 Try.underlying27 hi029 1 hsz29 Ao27 x6_1.length co27 1 (by omega) q29; have hr29 := Kd.Q_drop (k := (1 : Int).toNat) (Kd.Q_of_R HO_6.out) (by omega); obtain ⟨A29, hA29⟩ : ∃ Az_, Az_ = (if co27 = (1 : Int).toNat then Ao27 else (Ao27 : Option Addr).map (·.add ((1 : Int).toNat * 1))) := ⟨_, rfl⟩; obtain ⟨c29, hc29⟩ : ∃ cz_, cz_ = co27 - (1 : Int).toNat := ⟨_, rfl⟩; have hy29 : y614.length = x6_1.length - (1 : Int).toNat := (by rw [Ny614.out, List.length_drop]); rw [← Ny614.out] at hr29; rw [← hy29, ← hA29, ← hc29] at hcut29; replace hr29 : Kd.Q (Kd.int .i64) 3 w28 w.heap.size (fun k_ => some k_ ≠ (.slice Ao26 t599.length co26 : Value).ownBlock) (.slice A29 y614.length c29) y614 := (by rw [hA29, hc29, hy29]; exact hr29); have HE29 : Aside0 ((Value.slice A29 y614.length c29).ownBlock = (.slice Ao27 x6_1.length co27 : Value).ownBlock) := ⟨qq47⟩; clear hy29 hi029 hsz29 HO_6 hA29 hc29; have HO616 := Aside0.mk hr29; clear hr29; replace q29 := eq_true q29; have n_ := Aside0.mk (Kd.R_mono (ok' := fun k_ => some k_ ≠ (.slice A29 y614.length c29 : Value).ownBlock) HO_5.out (fun k_ hk => (by rw [HE29.out]; exact hk))); clear HO_5; have HO_5 := n_; clear n_)); try go_wp2_with (first | (go_at_call 36; (with_reducible refine (spec_l6Rd_pick.calls k1 g598 t596 x599001_1 24 t611 t612 w _ ?side1 ?side2 A15.out).mono ?_); (case side1 => exact qq8 HI598.out); (case side2 => exact qq39); rintro e w28 ⟨rfl, hi, hb, hk⟩; have n0_ := Aside0.mk (Kd.R_mono (Kd.R_keep (IsS61.apart (show IsS61 w _ g598 t596 x599001_1 from by repeat (first | (with_reducible first | exact HI598.out | apply IsS61.alloc | apply IsS61.drewN | apply IsS61.drew | apply IsS61.set_1) | exact HI598.out)) (qq2 HO_5.out) (by decide)) hk (fun _ h => h.2)) (fun _ h => h.1)); have n1_ := Aside0.mk (Kd.R_mono (Kd.R_keep (IsS61.apart (show IsS61 w _ g598 t596 x599001_1 from by repeat (first | (with_reducible first | exact HI598.out | apply IsS61.alloc | apply IsS61.drewN | apply IsS61.drew | apply IsS61.set_1) | exact HI598.out)) (qq2 HO_6.out) (by decide)) hk (fun _ h => h.2)) (fun _ h => h.1)); have n2_ := Aside0.mk (hb); have n3_ := Aside0.mk (hi); clear HO_5; clear HO_6; clear HB; clear HI598; have HO_5 := n0_; have HO_6 := n1_; have HB := n2_; have HI598 := n3_; clear n0_ n1_ n2_ n3_; (try clear hb); (try clear hb2); (try clear hk); (try clear hi); have q29 : (1 : Int) ≤ ((x6_1.length : Int) : Int) := of_decide_eq_true qq7; obtain ⟨i029, hi029, _, hsz29, _⟩ := info_parts info3; have hcut29 := cut_from (P := Try.prog) 27 3 .i64 Try.underlying27 hi029 1 hsz29 Ao27 x6_1.length co27 1 (by omega) q29; have hr29 := Kd.Q_drop (k := (1 : Int).toNat) (Kd.Q_of_R HO_6.out) (by omega); obtain ⟨A29, hA29⟩ : ∃ Az_, Az_ = (if co27 = (1 : Int).toNat then Ao27 else (Ao27 : Option Addr).map (·.add ((1 : Int).toNat * 1))) := ⟨_, rfl⟩; obtain ⟨c29, hc29⟩ : ∃ cz_, cz_ = co27 - (1 : Int).toNat := ⟨_, rfl⟩; have hy29 : y614.length = x6_1.length - (1 : Int).toNat := (by rw [Ny614.out, List.length_drop]); rw [← Ny614.out] at hr29; rw [← hy29, ← hA29, ← hc29] at hcut29; replace hr29 : Kd.Q (Kd.int .i64) 3 w28 w.heap.size (fun k_ => some k_ ≠ (.slice Ao26 t599.length co26 : Value).ownBlock) (.slice A29 y614.length c29) y614 := (by rw [hA29, hc29, hy29]; exact hr29); have HE29 : Aside0 ((Value.slice A29 y614.length c29).ownBlock = (.slice Ao27 x6_1.length co27 : Value).ownBlock) := ⟨qq47⟩; clear hy29 hi029 hsz29 HO_6 hA29 hc29; have HO616 := Aside0.mk hr29; clear hr29; replace q29 := eq_true q29; have n_ := Aside0.mk (Kd.R_mono (ok' := fun k_ => some k_ ≠ (.slice A29 y614.length c29 : Value).ownBlock) HO_5.out (fun k_ hk => (by rw [HE29.out]; exact hk))); clear HO_5; have HO_5 := n_; clear n_)))
                go_ret2
                exact ⟨_, _, qq12, qq2 HO_5.out, by (with_reducible repeat (first | apply Kd.Q_alloc | apply Kd.Q_drewN | apply Kd.Q_drew)); exact HO616.out, qq6 HB.out HI598.out⟩
              · rw [if_neg c25] at H
                exact absurd H (by simp)
            · rw [if_neg c24] at H
              have c24b0 : (t611 == 1) = false := beq_eq_false_iff_ne.mpr c24
              have c24b1 : (t611 != 1) = true := bne_iff_ne.mpr c24
              simp only [Option.some.injEq, Prod.mk.injEq] at H
              obtain ⟨rfl, rfl⟩ := H
              obtain ⟨Ao30, co30, eo30⟩ := Kd.R_slice HO_5.out
              subst eo30
              obtain ⟨Ao31, co31, eo31⟩ := Kd.R_slice HO_6.out
              subst eo31
              go_wp2_with (first | (go_at_call 36; (with_reducible refine (spec_l6Rd_pick.calls k1 g598 t596 x599001_1 24 t611 t612 w _ ?side1 ?side2 A15.out).mono ?_); (case side1 => exact qq8 HI598.out); (case side2 => exact qq39); rintro e w32 ⟨rfl, hi, hb, hk⟩; have n0_ := Aside0.mk (Kd.R_mono (Kd.R_keep (IsS61.apart (show IsS61 w _ g598 t596 x599001_1 from by repeat (first | (with_reducible first | exact HI598.out | apply IsS61.alloc | apply IsS61.drewN | apply IsS61.drew | apply IsS61.set_1) | exact HI598.out)) (qq2 HO_5.out) (by decide)) hk (fun _ h => h.2)) (fun _ h => h.1)); have n1_ := Aside0.mk (Kd.R_mono (Kd.R_keep (IsS61.apart (show IsS61 w _ g598 t596 x599001_1 from by repeat (first | (with_reducible first | exact HI598.out | apply IsS61.alloc | apply IsS61.drewN | apply IsS61.drew | apply IsS61.set_1) | exact HI598.out)) (qq2 HO_6.out) (by decide)) hk (fun _ h => h.2)) (fun _ h => h.1)); have n2_ := Aside0.mk (hb); have n3_ := Aside0.mk (hi); clear HO_5; clear HO_6; clear HB; clear HI598; have HO_5 := n0_; have HO_6 := n1_; have HB := n2_; have HI598 := n3_; clear n0_ n1_ n2_ n3_; (try clear hb); (try clear hb2); (try clear hk); (try clear hi)))
              repeat (go_quiet (first | (go_at_call 36; (with_reducible refine (spec_l6Rd_pick.calls k1 g598 t596 x599001_1 24 t611 t612 w _ ?side1 ?side2 A15.out).mono ?_); (case side1 => exact qq8 HI598.out); (case side2 => exact qq39); rintro e w32 ⟨rfl, hi, hb, hk⟩; have n0_ := Aside0.mk (Kd.R_mono (Kd.R_keep (IsS61.apart (show IsS61 w _ g598 t596 x599001_1 from by repeat (first | (with_reducible first | exact HI598.out | apply IsS61.alloc | apply IsS61.drewN | apply IsS61.drew | apply IsS61.set_1) | exact HI598.out)) (qq2 HO_5.out) (by decide)) hk (fun _ h => h.2)) (fun _ h => h.1)); have n1_ := Aside0.mk (Kd.R_mono (Kd.R_keep (IsS61.apart (show IsS61 w _ g598 t596 x599001_1 from by repeat (first | (with_reducible first | exact HI598.out | apply IsS61.alloc | apply IsS61.drewN | apply IsS61.drew | apply IsS61.set_1) | exact HI598.out)) (qq2 HO_6.out) (by decide)) hk (fun _ h => h.2)) (fun _ h => h.1)); have n2_ := Aside0.mk (hb); have n3_ := Aside0.mk (hi); clear HO_5; clear HO_6; clear HB; clear HI598; have HO_5 := n0_; have HO_6 := n1_; have HB := n2_; have HI598 := n3_; clear n0_ n1_ n2_ n3_; (try clear hb); (try clear hb2); (try clear hk); (try clear hi))); try go_wp2_with (first | (go_at_call 36; (with_reducible refine (spec_l6Rd_pick.calls k1 g598 t596 x599001_1 24 t611 t612 w _ ?side1 ?side2 A15.out).mono ?_); (case side1 => exact qq8 HI598.out); (case side2 => exact qq39); rintro e w32 ⟨rfl, hi, hb, hk⟩; have n0_ := Aside0.mk (Kd.R_mono (Kd.R_keep (IsS61.apart (show IsS61 w _ g598 t596 x599001_1 from by repeat (first | (with_reducible first | exact HI598.out | apply IsS61.alloc | apply IsS61.drewN | apply IsS61.drew | apply IsS61.set_1) | exact HI598.out)) (qq2 HO_5.out) (by decide)) hk (fun _ h => h.2)) (fun _ h => h.1)); have n1_ := Aside0.mk (Kd.R_mono (Kd.R_keep (IsS61.apart (show IsS61 w _ g598 t596 x599001_1 from by repeat (first | (with_reducible first | exact HI598.out | apply IsS61.alloc | apply IsS61.drewN | apply IsS61.drew | apply IsS61.set_1) | exact HI598.out)) (qq2 HO_6.out) (by decide)) hk (fun _ h => h.2)) (fun _ h => h.1)); have n2_ := Aside0.mk (hb); have n3_ := Aside0.mk (hi); clear HO_5; clear HO_6; clear HB; clear HI598; have HO_5 := n0_; have HO_6 := n1_; have HB := n2_; have HI598 := n3_; clear n0_ n1_ n2_ n3_; (try clear hb); (try clear hb2); (try clear hk); (try clear hi))))
              go_ret2
              exact ⟨_, _, qq12, qq2 HO_5.out, Kd.Q_of_R (qq2 HO_6.out), qq6 HB.out HI598.out⟩
        · rw [if_neg c14] at H
          have c14b0 : decide (0 < (x6_1.length : Int)) = false := decide_eq_false c14
          have c14b1 : decide (0 < x6_1.length) = false := decide_eq_false (by omega)
          clear c14
          simp only [Option.some.injEq, Prod.mk.injEq] at H
          obtain ⟨rfl, rfl⟩ := H
          obtain ⟨Ao33, co33, eo33⟩ := Kd.R_slice HO_5.out
          subst eo33
          obtain ⟨Ao34, co34, eo34⟩ := Kd.R_slice HO_6.out
          subst eo34
          go_wp2
          repeat (go_quiet (fail); try go_wp2)
          go_ret2
          exact ⟨_, _, qq12, qq2 HO_5.out, Kd.Q_of_R (qq2 HO_6.out), qq6 HB.out HI598.out⟩

end Go.Proofs.Ytmcfhmflncghiaa.Q
namespace Go.Proofs.Ytmcfhmflncghiaa.HeapW
open Go.RowKit Go.Proofs.Ytmcfhmflncghiaa.Q Go.Proofs.YtmcfhmflncghiaaW.PrintWords Go.Proofs.YtmcfhmflncghiaaW.PrintLast Go.Proofs.YtmcfhmflncghiaaW.PrintMore
set_option linter.unusedVariables false
set_option linter.unusedSimpArgs false
abbrev Rem := Int × Int
/-- What is served first: the greater remainder, of equal ones the lesser index. -/
def lessR (x y : Rem) : Bool := if x.2 ≠ y.2 then decide (y.2 < x.2) else decide (x.1 < y.1)
/-- The remainders a 0 .. a (m - 1) lie in block g. -/
def Arr (w : World) (g : Nat) (a : Nat → Rem) (m : Nat) : Prop := ∀ k, k < m → (w.cell? ⟨g, k * 2, none⟩ = some (.int .i64 (a k).1) ∧ w.cell? ⟨g, k * 2 + 1, none⟩ = some (.int .i64 (a k).2)) ∧ w.frozen? ⟨g, k * 2, none⟩ = false ∧ w.frozen? ⟨g, k * 2 + 1, none⟩ = false
theorem len_calls (A : Option Addr) (n c : Nat) (w : World) : Calls Try.prog 86 #[.slice A n c] w fun e w' => e = .returned (.int .i64 n) ∧ Drawn0 w w' := by
  go_enter Try.func86, Try.ntmps86
  go_wp2
  go_ret
  exact ⟨qq11, qq16⟩
theorem less_calls (g n c : Nat) (a : Nat → Rem) (i j : Nat) (hi : i < n) (hj : j < n) (w : World) (h : Arr w g a n) :
    Calls Try.prog 87 #[.slice (some ⟨g, 0, none⟩) n c, .int .i64 i, .int .i64 j] w fun e w' => e = .returned (.bool (lessR (a i) (a j))) ∧ Drawn0 w w' := by
  obtain ⟨⟨h0, h1⟩, _⟩ := h i hi
  obtain ⟨⟨h2, h3⟩, _⟩ := h j hj
  unfold lessR
  generalize (a i).1 = xi at *
  generalize (a i).2 = li at *
  generalize (a j).1 = xj at *
  generalize (a j).2 = lj at *
  go_enter Try.func87, Try.ntmps87
  have p1 : (0 : Int) ≤ (i : Int) := by omega
  have p2 : (0 : Int) ≤ (j : Int) := by omega
  have p3 : (i : Int) < (n : Int) := by omega
  have p4 : (j : Int) < (n : Int) := by omega
  by_cases c : li = lj
  · have c1 : (li != lj) = false := by simp [c]
    have c2 : (li == lj) = true := by simp [c]
    go_wp2
    go_quiet (fail)
    go_wp2
    go_quiet (fail)
    go_wp2
    go_ret
    exact ⟨rfl, qq16⟩
  · have c1 : (li != lj) = true := by simp [c]
    have c2 : (li == lj) = false := by simp [c]
    go_wp2
    go_quiet (fail)
    go_wp2
    go_quiet (fail)
    go_wp2
    go_ret
    exact ⟨rfl, qq16⟩
def swpR (a : Nat → Rem) (i j k : Nat) : Rem := if k = j then a i else if k = i then a j else a k
theorem cset {w : World} {g p q : Nat} {v u : Value} (h : w.cell? ⟨g, q, none⟩ = some u) : (w.setCell ⟨g, p, none⟩ v).cell? ⟨g, q, none⟩ = some (if p = q then v else u) := by
  by_cases e : p = q
  · subst e; rw [if_pos rfl]; exact World.cell?_setCell_same _ _ _ h
  · rw [if_neg e, World.cell?_setCell_other (h := fun k => e (by injection k)), h]
theorem World.cell?_drew' (w : World) (p : Addr) : w.drew.cell? p = w.cell? p := rfl
theorem grown_refl (w : World) (g : Option Nat) : w.grownBy w g := ⟨rfl, rfl, rfl, Nat.le_refl _, fun _ _ _ => rfl⟩
theorem grown_set {w w1 : World} {g : Nat} (h : w.grownBy w1 (some g)) (p : Nat) (v : Value) : w.grownBy (w1.setCell ⟨g, p, none⟩ v) (some g) :=
  ⟨h.os, h.tape, h.output, by have := h.size; simp; exact this, fun k hk hne => (Below.heap_setCell w1 ⟨g, p, none⟩ v k (fun e => hne (by rw [e]))).trans (h.block k hk hne)⟩
theorem grown_drew {w w1 : World} {g : Option Nat} (h : w.grownBy w1 g) : w.grownBy w1.drew g := ⟨h.os, h.tape, h.output, h.size, h.block⟩
theorem grown_alloc {w w1 : World} {g : Option Nat} (h : w.grownBy w1 g) (o : Obj) : w.grownBy (w1.alloc o) g :=
  ⟨h.os, h.tape, h.output, by have := h.size; simp; omega, fun k hk hne => (heap_alloc_old w1 o (by have := h.size; omega)).trans (h.block k hk hne)⟩
theorem swap_calls (g n c : Nat) (a : Nat → Rem) (m : Nat) (i j : Nat) (hi : i < n) (hj : j < n) (hm : n ≤ m) (w : World) (h : Arr w g a m) :
    Calls Try.prog 89 #[.slice (some ⟨g, 0, none⟩) n c, .int .i64 i, .int .i64 j] w fun e w' => (∃ v, e = .returned v) ∧ Arr w' g (swpR a i j) m ∧ w.grownBy w' (some g) := by
  obtain ⟨⟨h0, h1⟩, f0, f1⟩ := h i (by omega)
  obtain ⟨⟨h2, h3⟩, f2, f3⟩ := h j (by omega)
  go_enter Try.func89, Try.ntmps89
  have p1 : (0 : Int) ≤ (i : Int) := by omega
  have p2 : (0 : Int) ≤ (j : Int) := by omega
  have p3 : (i : Int) < (n : Int) := by omega
  have p4 : (j : Int) < (n : Int) := by omega
  obtain ⟨x, hx⟩ := cell?_setCell_some (w := w) (p := ⟨g, i * 2, none⟩) (x := .int .i64 (a j).1) (q := ⟨g, j * 2, none⟩) h2
  obtain ⟨y0, hy0⟩ := cell?_setCell_some (w := w) (p := ⟨g, i * 2, none⟩) (x := .int .i64 (a j).1) (q := ⟨g, j * 2 + 1, none⟩) h3
  obtain ⟨y, hy⟩ := cell?_setCell_some (p := ⟨g, i * 2 + 1, none⟩) (x := .int .i64 (a j).2) hy0
  go_wp2
  go_region
  go_end0
  refine ⟨⟨_, rfl⟩, fun k hk => ?_, ?_⟩
  · obtain ⟨⟨k0, k1⟩, e0, e1⟩ := h k hk
    have c0 := cset (p := j * 2 + 1) (v := .int .i64 (a i).2) (cset (p := j * 2) (v := .int .i64 (a i).1) (cset (p := i * 2 + 1) (v := .int .i64 (a j).2) (cset (p := i * 2) (v := .int .i64 (a j).1) k0)))
    have c1 := cset (p := j * 2 + 1) (v := .int .i64 (a i).2) (cset (p := j * 2) (v := .int .i64 (a i).1) (cset (p := i * 2 + 1) (v := .int .i64 (a j).2) (cset (p := i * 2) (v := .int .i64 (a j).1) k1)))
    refine ⟨⟨?_, ?_⟩, ?_, ?_⟩
    · rw [World.cell?_drew', c0]
      unfold swpR
      by_cases q : k = j
      · subst q
        rw [if_neg (show ¬ k * 2 + 1 = k * 2 by omega), if_pos rfl, if_pos rfl]
      · rw [if_neg (show ¬ j * 2 + 1 = k * 2 by omega), if_neg (show ¬ j * 2 = k * 2 by omega), if_neg (show ¬ i * 2 + 1 = k * 2 by omega), if_neg q]
        by_cases q2 : k = i
        · subst q2; rw [if_pos rfl, if_pos rfl]
        · rw [if_neg (show ¬ i * 2 = k * 2 by omega), if_neg q2]
    · rw [World.cell?_drew', c1]
      unfold swpR
      by_cases q : k = j
      · subst q
        rw [if_pos rfl, if_pos rfl]
      · rw [if_neg (show ¬ j * 2 + 1 = k * 2 + 1 by omega), if_neg (show ¬ j * 2 = k * 2 + 1 by omega), if_neg q]
        by_cases q2 : k = i
        · subst q2; rw [if_pos rfl, if_pos rfl]
        · rw [if_neg (show ¬ i * 2 + 1 = k * 2 + 1 by omega), if_neg (show ¬ i * 2 = k * 2 + 1 by omega), if_neg q2]
    · simp [e0, go_sem]
    · simp [e1, go_sem]
  · exact grown_drew (grown_set (grown_set (grown_set (grown_set (grown_refl _ _) _ _) _ _) _ _) _ _)
theorem pop_calls (hb g n c : Nat) (a : Nat → Rem) (m : Nat) (hn : 0 < n) (hm : n ≤ m) (hc : n ≤ c) (hcl : c ≤ maxLen) (w : World) (h : Arr w g a m) (hg : g < w.heap.size) (hv : w.cell? ⟨hb, 0, none⟩ = some (.slice (some ⟨g, 0, none⟩) n c)) (hf : w.frozen? ⟨hb, 0, none⟩ = false) (hne : g ≠ hb) :
    Calls Try.prog 88 #[.pointer (some ⟨hb, 0, none⟩)] w fun e w' => e = .returned (.iface 77 (.agg #[.int .i64 (a (n - 1)).1, .int .i64 (a (n - 1)).2])) ∧
      Arr w' g a m ∧ w'.cell? ⟨hb, 0, none⟩ = some (.slice (some ⟨g, 0, none⟩) (n - 1 : Nat) c) ∧ w'.frozen? ⟨hb, 0, none⟩ = false ∧ w.grownBy w' (some hb) := by
  obtain ⟨⟨h0, h1⟩, f0, f1⟩ := h (n - 1) (by omega)
  have p0 : wrap64 ((n : Int) - 1) = ((n - 1 : Nat) : Int) := by unfold maxLen at hcl; unfold wrap64; omega
  have p1 : (0 : Int) ≤ ((n - 1 : Nat) : Int) := by omega
  have p2 : ((n - 1 : Nat) : Int) < (n : Int) := by omega
  have p3 : ((n - 1 : Nat) : Int) ≤ (c : Int) := by omega
  have p4 : (0 : Int) ≤ (n : Int) - 1 := by omega
  have p5 : (n : Int) - 1 < (n : Int) := by omega
  have p6 : (n : Int) - 1 ≤ (c : Int) := by omega
  have hlt : hb < w.heap.size := World.block_lt_of_cell? w ⟨hb, 0, none⟩ hv
  have hv2 : ∀ o, (w.alloc o).cell? ⟨hb, 0, none⟩ = some (.slice (some ⟨g, 0, none⟩) n c) := fun o => (World.cell?_of_block (a := ⟨hb, 0, none⟩) (heap_alloc_old w o hlt)).trans hv
  have hf2 : ∀ o, (w.alloc o).frozen? ⟨hb, 0, none⟩ = false := fun o => (World.frozen?_of_block (a := ⟨hb, 0, none⟩) (heap_alloc_old w o hlt)).trans hf
  go_enter Try.func88, Try.ntmps88
  go_wp2
  go_ret
  refine ⟨rfl, fun k hk => ?_, ?_, ?_, ?_⟩
  · obtain ⟨⟨k0, k1⟩, e0, e1⟩ := h k hk
    have far : ∀ q : Nat, ((w.setCell ⟨hb, 0, none⟩ (.slice (some ⟨g, 0, none⟩) (n - 1) c)).alloc (.cells #[.int .i64 (a (n - 1)).1, .int .i64 (a (n - 1)).2] 77)).heap[g]? = w.heap[g]? := fun q =>
      (heap_alloc_old _ _ (by simpa using hg)).trans (Below.heap_setCell w ⟨hb, 0, none⟩ _ g hne)
    exact ⟨⟨(World.cell?_of_block (a := ⟨g, k * 2, none⟩) (far 0)).trans k0, (World.cell?_of_block (a := ⟨g, k * 2 + 1, none⟩) (far 0)).trans k1⟩,
      (World.frozen?_of_block (a := ⟨g, k * 2, none⟩) (far 0)).trans e0, (World.frozen?_of_block (a := ⟨g, k * 2 + 1, none⟩) (far 0)).trans e1⟩
  · refine (World.cell?_of_block (a := ⟨hb, 0, none⟩) (heap_alloc_old _ _ (by simpa using hlt))).trans ?_
    exact World.cell?_setCell_same _ _ _ hv
  · refine (World.frozen?_of_block (a := ⟨hb, 0, none⟩) (heap_alloc_old _ _ (by simpa using hlt))).trans ?_
    simp [hf, go_sem]
  · exact grown_alloc (grown_set (grown_refl _ _) _ _) _
end Go.Proofs.Ytmcfhmflncghiaa.HeapW
namespace Go.Proofs.Ytmcfhmflncghiaa.HeapW
open Go.RowKit Go.Proofs.Ytmcfhmflncghiaa.Q Go.Proofs.YtmcfhmflncghiaaW.PrintWords Go.Proofs.YtmcfhmflncghiaaW.PrintLast Go.Proofs.YtmcfhmflncghiaaW.PrintMore
set_option linter.unusedVariables false
set_option linter.unusedSimpArgs false
set_option maxRecDepth 100000
theorem meth0 (k hb : Nat) (w : World) {v : Value} (hv : w.cell? ⟨hb, 0, none⟩ = some v) : (method (k + 1) 71 (.pointer (some ⟨hb, 0, none⟩)) "Less").run Try.prog w = .ok (87, v) w := by
  have h0 : (Array.find? (fun x => x.name == "Less") Try.t71.methods).isSome = true := by kernel_rfl
  have e1 : Array.find? (fun x => x.name == "Less") Try.t71.methods = some ((Array.find? (fun x => x.name == "Less") Try.t71.methods).get h0) := (Option.some_get h0).symm
  have e2 : ((Array.find? (fun x => x.name == "Less") Try.t71.methods).get h0).path = #[] := by kernel_rfl
  have e3 : ((Array.find? (fun x => x.name == "Less") Try.t71.methods).get h0).func = some (87, false) := by kernel_rfl
  generalize (Array.find? (fun x => x.name == "Less") Try.t71.methods).get h0 = mm at e1 e2 e3
  clear h0
  unfold method
  go_simp
  have f1 : (follow [] 71 (Place.val (.pointer (some ⟨hb, 0, none⟩)))).run Try.prog w = .ok (71, Place.val (.pointer (some ⟨hb, 0, none⟩))) w := rfl
  rw [f1]
  simp only [Result.andThen_ok]
  unfold receiverAt
  go_simp
  have f2 : (Place.get 71 (Place.val (.pointer (some ⟨hb, 0, none⟩)))).run Try.prog w = .ok (.pointer (some ⟨hb, 0, none⟩)) w := rfl
  rw [f2]
  simp only [Result.andThen_ok]
  have f3 : ∀ s1 s2 : String, (Builtin.ssaWrapNilChk_ #[71] 71 #[.pointer (some ⟨hb, 0, none⟩), strVal s1, strVal s2]).run Try.prog w = .ok (.pointer (some ⟨hb, 0, none⟩)) w := fun _ _ => rfl
  rw [f3]
  go_simp
theorem meth1 (k hb : Nat) (w : World) {v : Value} (hv : w.cell? ⟨hb, 0, none⟩ = some v) : (method (k + 1) 71 (.pointer (some ⟨hb, 0, none⟩)) "Swap").run Try.prog w = .ok (89, v) w := by
  have h0 : (Array.find? (fun x => x.name == "Swap") Try.t71.methods).isSome = true := by kernel_rfl
  have e1 : Array.find? (fun x => x.name == "Swap") Try.t71.methods = some ((Array.find? (fun x => x.name == "Swap") Try.t71.methods).get h0) := (Option.some_get h0).symm
  have e2 : ((Array.find? (fun x => x.name == "Swap") Try.t71.methods).get h0).path = #[] := by kernel_rfl
  have e3 : ((Array.find? (fun x => x.name == "Swap") Try.t71.methods).get h0).func = some (89, false) := by kernel_rfl
  generalize (Array.find? (fun x => x.name == "Swap") Try.t71.methods).get h0 = mm at e1 e2 e3
  clear h0
  unfold method
  go_simp
  have f1 : (follow [] 71 (Place.val (.pointer (some ⟨hb, 0, none⟩)))).run Try.prog w = .ok (71, Place.val (.pointer (some ⟨hb, 0, none⟩))) w := rfl
  rw [f1]
  simp only [Result.andThen_ok]
  unfold receiverAt
  go_simp
  have f2 : (Place.get 71 (Place.val (.pointer (some ⟨hb, 0, none⟩)))).run Try.prog w = .ok (.pointer (some ⟨hb, 0, none⟩)) w := rfl
  rw [f2]
  simp only [Result.andThen_ok]
  have f3 : ∀ s1 s2 : String, (Builtin.ssaWrapNilChk_ #[71] 71 #[.pointer (some ⟨hb, 0, none⟩), strVal s1, strVal s2]).run Try.prog w = .ok (.pointer (some ⟨hb, 0, none⟩)) w := fun _ _ => rfl
  rw [f3]
  go_simp
theorem meth2 (k hb : Nat) (w : World) {v : Value} (hv : w.cell? ⟨hb, 0, none⟩ = some v) : (method (k + 1) 71 (.pointer (some ⟨hb, 0, none⟩)) "Len").run Try.prog w = .ok (86, v) w := by
  have h0 : (Array.find? (fun x => x.name == "Len") Try.t71.methods).isSome = true := by kernel_rfl
  have e1 : Array.find? (fun x => x.name == "Len") Try.t71.methods = some ((Array.find? (fun x => x.name == "Len") Try.t71.methods).get h0) := (Option.some_get h0).symm
  have e2 : ((Array.find? (fun x => x.name == "Len") Try.t71.methods).get h0).path = #[] := by kernel_rfl
  have e3 : ((Array.find? (fun x => x.name == "Len") Try.t71.methods).get h0).func = some (86, false) := by kernel_rfl
  generalize (Array.find? (fun x => x.name == "Len") Try.t71.methods).get h0 = mm at e1 e2 e3
  clear h0
  unfold method
  go_simp
  have f1 : (follow [] 71 (Place.val (.pointer (some ⟨hb, 0, none⟩)))).run Try.prog w = .ok (71, Place.val (.pointer (some ⟨hb, 0, none⟩))) w := rfl
  rw [f1]
  simp only [Result.andThen_ok]
  unfold receiverAt
  go_simp
  have f2 : (Place.get 71 (Place.val (.pointer (some ⟨hb, 0, none⟩)))).run Try.prog w = .ok (.pointer (some ⟨hb, 0, none⟩)) w := rfl
  rw [f2]
  simp only [Result.andThen_ok]
  have f3 : ∀ s1 s2 : String, (Builtin.ssaWrapNilChk_ #[71] 71 #[.pointer (some ⟨hb, 0, none⟩), strVal s1, strVal s2]).run Try.prog w = .ok (.pointer (some ⟨hb, 0, none⟩)) w := fun _ _ => rfl
  rw [f3]
  go_simp
theorem meth3 (k : Nat) (p : Addr) (w : World) : (method (k + 1) 71 (.pointer (some p)) "Pop").run Try.prog w = .ok (88, .pointer (some p)) w := by kernel_rfl
end Go.Proofs.Ytmcfhmflncghiaa.HeapW
namespace Go.Proofs.Ytmcfhmflncghiaa.HeapW
open Go.RowKit Go.Proofs.Ytmcfhmflncghiaa.Q Go.Proofs.YtmcfhmflncghiaaW.PrintWords Go.Proofs.YtmcfhmflncghiaaW.PrintLast Go.Proofs.YtmcfhmflncghiaaW.PrintMore
set_option linter.unusedVariables false
set_option linter.unusedSimpArgs false
/-- Sinking, so far as f steps. -/
def dnR : Nat → (Nat → Rem) → Nat → Nat → (Nat → Rem)
  | 0, a, _, _ => a
  | f + 1, a, i, n =>
    if n ≤ 2 * i + 1 then a else
    let j := if 2 * i + 2 < n ∧ lessR (a (2 * i + 2)) (a (2 * i + 1)) = true then 2 * i + 2 else 2 * i + 1
    if lessR (a j) (a i) = true then dnR f (swpR a i j) j n else a
/-- The heap as it lies: its header in block hb, the remainders in block g. -/
structure HP (w : World) (hb g c N : Nat) (a : Nat → Rem) (m : Nat) : Prop where
  arr : Arr w g a m
  hv : w.cell? ⟨hb, 0, none⟩ = some (.slice (some ⟨g, 0, none⟩) N c)
  hm0 : (method 216 71 (.pointer (some ⟨hb, 0, none⟩)) "Less").run Try.prog w = .ok (87, .slice (some ⟨g, 0, none⟩) N c) w
  hm1 : (method 216 71 (.pointer (some ⟨hb, 0, none⟩)) "Swap").run Try.prog w = .ok (89, .slice (some ⟨g, 0, none⟩) N c) w
  hm2 : (method 216 71 (.pointer (some ⟨hb, 0, none⟩)) "Len").run Try.prog w = .ok (86, .slice (some ⟨g, 0, none⟩) N c) w
theorem HP.mk' {w : World} {hb g c N : Nat} {a : Nat → Rem} {m : Nat} (h : Arr w g a m) (hv : w.cell? ⟨hb, 0, none⟩ = some (.slice (some ⟨g, 0, none⟩) N c)) : HP w hb g c N a m :=
  ⟨h, hv, meth0 (216 - 1) hb w hv, meth1 (216 - 1) hb w hv, meth2 (216 - 1) hb w hv⟩
theorem arr_drawn {w w' : World} {g : Nat} {a : Nat → Rem} {m : Nat} (h : Arr w g a m) (hd : Drawn0 w w') : Arr w' g a m := by
  obtain ⟨k, rfl⟩ := hd.out
  intro i hi
  have := h i hi
  simpa using this
theorem HP.drawn {w w' : World} {hb g c N : Nat} {a : Nat → Rem} {m : Nat} (h : HP w hb g c N a m) (hd : Drawn0 w w') : HP w' hb g c N a m := by
  refine HP.mk' (arr_drawn h.arr hd) ?_
  obtain ⟨k, rfl⟩ := hd.out
  simpa using h.hv
theorem grown_drawn {w w1 w2 : World} {g : Option Nat} (h : w.grownBy w1 g) (hd : Drawn0 w1 w2) : w.grownBy w2 g := by
  have b := hd.below
  obtain ⟨k, rfl⟩ := hd.out
  exact ⟨b.os.trans h.os, b.tape.trans h.tape, b.output.trans h.output, Nat.le_trans h.size b.size, fun q hq hne => (b.block q (Nat.lt_of_lt_of_le hq h.size)).trans (h.block q hq hne)⟩
theorem grown_trans {w w1 w2 : World} {g : Nat} (h : w.grownBy w1 (some g)) (k : w1.grownBy w2 (some g)) : w.grownBy w2 (some g) :=
  ⟨k.os.trans h.os, k.tape.trans h.tape, k.output.trans h.output, Nat.le_trans h.size k.size, fun q hq hne => (k.block q (Nat.lt_of_lt_of_le hq h.size) hne).trans (h.block q hq hne)⟩
theorem less_callsI (g n c : Nat) (a : Nat → Rem) (i j : Nat) (x y : Int) (ex : (i : Int) = x) (ey : (j : Int) = y) (hi : i < n) (hj : j < n) (w : World) (h : Arr w g a n) {b : Bool} (hb : lessR (a i) (a j) = b) :
    Calls Try.prog 87 #[.slice (some ⟨g, 0, none⟩) n c, .int .i64 x, .int .i64 y] w fun e w' => e = .returned (.bool b) ∧ Drawn0 w w' := by
  subst ex ey hb
  exact less_calls g n c a i j hi hj w h
theorem swap_callsI (g n c : Nat) (a : Nat → Rem) (m : Nat) (i j : Nat) (x y : Int) (ex : (i : Int) = x) (ey : (j : Int) = y) (hi : i < n) (hj : j < n) (hm : n ≤ m) (w : World) (h : Arr w g a m) :
    Calls Try.prog 89 #[.slice (some ⟨g, 0, none⟩) n c, .int .i64 x, .int .i64 y] w fun e w' => (∃ v, e = .returned v) ∧ Arr w' g (swpR a i j) m ∧ w.grownBy w' (some g) := by
  subst ex ey
  exact swap_calls g n c a m i j hi hj hm w h
theorem arr_le {w : World} {g : Nat} {a : Nat → Rem} {m n : Nat} (h : Arr w g a m) (hn : n ≤ m) : Arr w g a n := fun k hk => h k (by omega)
theorem HP.swapped {w w' : World} {hb g c N : Nat} {a a' : Nat → Rem} {m : Nat} (h : HP w hb g c N a m) (hne : g ≠ hb) (hA : Arr w' g a' m) (hg : w.grownBy w' (some g)) : HP w' hb g c N a' m :=
  HP.mk' hA ((World.cell?_of_block (a := ⟨hb, 0, none⟩) (hg.block hb (World.block_lt_of_cell? w ⟨hb, 0, none⟩ h.hv) (fun e => hne (by injection e with e; exact e.symm)))).trans h.hv)
set_option maxHeartbeats 1000000 in
theorem down_calls (hb g c N : Nat) (a : Nat → Rem) (m : Nat) (i n : Nat) (hn : n ≤ N) (hm : N ≤ m) (hs : m ≤ 1000) (hi : i ≤ 1000) (w : World) (h : HP w hb g c N a m) (hne : g ≠ hb) :
    Calls Try.prog 67 #[.iface 71 (.pointer (some ⟨hb, 0, none⟩)), .int .i64 i, .int .i64 n] w fun e w' => (∃ v, e = .returned v) ∧ HP w' hb g c N (dnR n a i n) m ∧ w.grownBy w' (some g) := by
  have HP0 := Aside0.mk h
  clear h
  go_enter Try.func67, Try.ntmps67
  go_wp2
  go_loopg [7] n (fun f v7 w' => ∃ (i' : Nat) (a' : Nat → Rem), v7 = .int .i64 i' ∧ Aside0 (i' ≤ 1000 ∧ n ≤ i' + f) ∧ Aside0 (HP w' hb g c N a' m) ∧ Aside0 (w.grownBy w' (some g)) ∧ Aside0 (dnR n a i n = dnR f a' i' n))
  case atStart => exact ⟨i, a, rfl, ⟨hi, by omega⟩, HP0, ⟨grown_refl _ _⟩, ⟨rfl⟩⟩
  case round =>
    obtain ⟨i', a', rfl, HI, HA, HG, HD⟩ := hrel
    clear HP0
    have hi' := HI.out.1
    have q1 : (0 : Int) ≤ (i' : Int) := by omega
    by_cases c1 : n ≤ 2 * i' + 1
    · have c1b : decide ((n : Int) ≤ 2 * (i' : Int) + 1) = true := decide_eq_true (by omega)
      go_wp2
      go_ret
      have e : dnR gk a' i' n = a' := by
        cases gk with
        | zero => rfl
        | succ k => rw [dnR, if_pos c1]
      exact ⟨⟨_, rfl⟩, qq53, HG.out⟩
    · have c1b : decide ((n : Int) ≤ 2 * (i' : Int) + 1) = false := decide_eq_false (by omega)
      have c1c : decide (2 * (i' : Int) + 1 < 0) = false := decide_eq_false (by omega)
      obtain ⟨k, rfl⟩ : ∃ k, gk = k + 1 := ⟨gk - 1, by have := HI.out.2; omega⟩
      have f1 : ((2 * i' + 1 : Nat) : Int) = 2 * (i' : Int) + 1 := by omega
      have f2 : ((2 * i' + 2 : Nat) : Int) = 2 * (i' : Int) + 1 + 1 := by omega
      have hm0 := HA.out.hm0
      have hm1 := HA.out.hm1
      by_cases c2 : 2 * i' + 2 < n
      · have c2b : decide (2 * (i' : Int) + 1 + 1 < (n : Int)) = true := decide_eq_true (by omega)
        cases c3 : lessR (a' (2 * i' + 2)) (a' (2 * i' + 1))
        · have je : (if 2 * i' + 2 < n ∧ lessR (a' (2 * i' + 2)) (a' (2 * i' + 1)) = true then 2 * i' + 2 else 2 * i' + 1) = 2 * i' + 1 := if_neg (fun q => by rw [c3] at q; exact absurd q.2 (by decide))
          cases c4 : lessR (a' (2 * i' + 1)) (a' i')
          · go_wp2_with (first | ((go_at_call 87); (with_reducible refine (less_callsI g N c a' (2 * i' + 2) (2 * i' + 1) _ _ f2 f1 (by omega) (by omega) _ (arr_le HA.out.arr hm) c3).mono ?_); rintro e w1 ⟨rfl, hd⟩; have n0_ := Aside0.mk (HA.out.drawn hd); have n1_ := Aside0.mk (grown_drawn HG.out hd); clear HA HG hm0 hm1 hd; have HA := n0_; have HG := n1_; have hm0 := HA.out.hm0; have hm1 := HA.out.hm1; clear n0_ n1_) | ((go_at_call 87); (with_reducible refine (less_callsI g N c a' (2 * i' + 1) i' _ _ f1 rfl (by omega) (by omega) _ (arr_le HA.out.arr hm) c4).mono ?_); rintro e w1 ⟨rfl, hd⟩; have n0_ := Aside0.mk (HA.out.drawn hd); have n1_ := Aside0.mk (grown_drawn HG.out hd); clear HA HG hm0 hm1 hd; have HA := n0_; have HG := n1_; have hm0 := HA.out.hm0; have hm1 := HA.out.hm1; clear n0_ n1_))
            go_ret
            have e : dnR (k + 1) a' i' n = a' := by rw [dnR, if_neg c1]; simp only [je]; rw [if_neg (by rw [c4]; decide)]
            exact ⟨⟨_, rfl⟩, qq53, HG.out⟩
          · go_wp2_with (first | ((go_at_call 87); (with_reducible refine (less_callsI g N c a' (2 * i' + 2) (2 * i' + 1) _ _ f2 f1 (by omega) (by omega) _ (arr_le HA.out.arr hm) c3).mono ?_); rintro e w1 ⟨rfl, hd⟩; have n0_ := Aside0.mk (HA.out.drawn hd); have n1_ := Aside0.mk (grown_drawn HG.out hd); clear HA HG hm0 hm1 hd; have HA := n0_; have HG := n1_; have hm0 := HA.out.hm0; have hm1 := HA.out.hm1; clear n0_ n1_) | ((go_at_call 87); (with_reducible refine (less_callsI g N c a' (2 * i' + 1) i' _ _ f1 rfl (by omega) (by omega) _ (arr_le HA.out.arr hm) c4).mono ?_); rintro e w1 ⟨rfl, hd⟩; have n0_ := Aside0.mk (HA.out.drawn hd); have n1_ := Aside0.mk (grown_drawn HG.out hd); clear HA HG hm0 hm1 hd; have HA := n0_; have HG := n1_; have hm0 := HA.out.hm0; have hm1 := HA.out.hm1; clear n0_ n1_) | ((go_at_call 89); (with_reducible refine (swap_callsI g N c a' m i' (2 * i' + 1) _ _ rfl f1 (by omega) (by omega) hm _ HA.out.arr).mono ?_); rintro e w1 ⟨⟨v_, rfl⟩, hA2, hg2⟩; have n0_ := Aside0.mk (HA.out.swapped hne hA2 hg2); have n1_ := Aside0.mk (grown_trans HG.out hg2); clear HA HG hm0 hm1 hA2 hg2; have HA := n0_; have HG := n1_; have hm0 := HA.out.hm0; have hm1 := HA.out.hm1; clear n0_ n1_))
            have e : dnR (k + 1) a' i' n = dnR k (swpR a' i' (2 * i' + 1)) (2 * i' + 1) n := by rw [dnR, if_neg c1]; simp only [je]; rw [if_pos c4]
            go_roundg k
            case measure => omega
            case rel => exact ⟨(2 * i' + 1), swpR a' i' (2 * i' + 1), (by first | rfl | (rw [f1]) | (simp [f1])), ⟨by omega, by have := HI.out.2; omega⟩, HA, HG, ⟨HD.out.trans e⟩⟩
        · have je : (if 2 * i' + 2 < n ∧ lessR (a' (2 * i' + 2)) (a' (2 * i' + 1)) = true then 2 * i' + 2 else 2 * i' + 1) = 2 * i' + 2 := if_pos ⟨c2, c3⟩
          cases c4 : lessR (a' (2 * i' + 2)) (a' i')
          · go_wp2_with (first | ((go_at_call 87); (with_reducible refine (less_callsI g N c a' (2 * i' + 2) (2 * i' + 1) _ _ f2 f1 (by omega) (by omega) _ (arr_le HA.out.arr hm) c3).mono ?_); rintro e w1 ⟨rfl, hd⟩; have n0_ := Aside0.mk (HA.out.drawn hd); have n1_ := Aside0.mk (grown_drawn HG.out hd); clear HA HG hm0 hm1 hd; have HA := n0_; have HG := n1_; have hm0 := HA.out.hm0; have hm1 := HA.out.hm1; clear n0_ n1_) | ((go_at_call 87); (with_reducible refine (less_callsI g N c a' (2 * i' + 2) i' _ _ f2 rfl (by omega) (by omega) _ (arr_le HA.out.arr hm) c4).mono ?_); rintro e w1 ⟨rfl, hd⟩; have n0_ := Aside0.mk (HA.out.drawn hd); have n1_ := Aside0.mk (grown_drawn HG.out hd); clear HA HG hm0 hm1 hd; have HA := n0_; have HG := n1_; have hm0 := HA.out.hm0; have hm1 := HA.out.hm1; clear n0_ n1_))
            go_ret
            have e : dnR (k + 1) a' i' n = a' := by rw [dnR, if_neg c1]; simp only [je]; rw [if_neg (by rw [c4]; decide)]
            exact ⟨⟨_, rfl⟩, qq53, HG.out⟩
          · go_wp2_with (first | ((go_at_call 87); (with_reducible refine (less_callsI g N c a' (2 * i' + 2) (2 * i' + 1) _ _ f2 f1 (by omega) (by omega) _ (arr_le HA.out.arr hm) c3).mono ?_); rintro e w1 ⟨rfl, hd⟩; have n0_ := Aside0.mk (HA.out.drawn hd); have n1_ := Aside0.mk (grown_drawn HG.out hd); clear HA HG hm0 hm1 hd; have HA := n0_; have HG := n1_; have hm0 := HA.out.hm0; have hm1 := HA.out.hm1; clear n0_ n1_) | ((go_at_call 87); (with_reducible refine (less_callsI g N c a' (2 * i' + 2) i' _ _ f2 rfl (by omega) (by omega) _ (arr_le HA.out.arr hm) c4).mono ?_); rintro e w1 ⟨rfl, hd⟩; have n0_ := Aside0.mk (HA.out.drawn hd); have n1_ := Aside0.mk (grown_drawn HG.out hd); clear HA HG hm0 hm1 hd; have HA := n0_; have HG := n1_; have hm0 := HA.out.hm0; have hm1 := HA.out.hm1; clear n0_ n1_) | ((go_at_call 89); (with_reducible refine (swap_callsI g N c a' m i' (2 * i' + 2) _ _ rfl f2 (by omega) (by omega) hm _ HA.out.arr).mono ?_); rintro e w1 ⟨⟨v_, rfl⟩, hA2, hg2⟩; have n0_ := Aside0.mk (HA.out.swapped hne hA2 hg2); have n1_ := Aside0.mk (grown_trans HG.out hg2); clear HA HG hm0 hm1 hA2 hg2; have HA := n0_; have HG := n1_; have hm0 := HA.out.hm0; have hm1 := HA.out.hm1; clear n0_ n1_))
            have e : dnR (k + 1) a' i' n = dnR k (swpR a' i' (2 * i' + 2)) (2 * i' + 2) n := by rw [dnR, if_neg c1]; simp only [je]; rw [if_pos c4]
            go_roundg k
            case measure => omega
            case rel => exact ⟨(2 * i' + 2), swpR a' i' (2 * i' + 2), (by first | rfl | (rw [f2]) | (simp [f2])), ⟨by omega, by have := HI.out.2; omega⟩, HA, HG, ⟨HD.out.trans e⟩⟩
      · have c2b : decide (2 * (i' : Int) + 1 + 1 < (n : Int)) = false := decide_eq_false (by omega)
        have je : (if 2 * i' + 2 < n ∧ lessR (a' (2 * i' + 2)) (a' (2 * i' + 1)) = true then 2 * i' + 2 else 2 * i' + 1) = 2 * i' + 1 := if_neg (fun q => c2 q.1)
        cases c4 : lessR (a' (2 * i' + 1)) (a' i')
        · go_wp2_with (first | ((go_at_call 87); (with_reducible refine (less_callsI g N c a' (2 * i' + 1) i' _ _ f1 rfl (by omega) (by omega) _ (arr_le HA.out.arr hm) c4).mono ?_); rintro e w1 ⟨rfl, hd⟩; have n0_ := Aside0.mk (HA.out.drawn hd); have n1_ := Aside0.mk (grown_drawn HG.out hd); clear HA HG hm0 hm1 hd; have HA := n0_; have HG := n1_; have hm0 := HA.out.hm0; have hm1 := HA.out.hm1; clear n0_ n1_))
          go_ret
          have e : dnR (k + 1) a' i' n = a' := by rw [dnR, if_neg c1]; simp only [je]; rw [if_neg (by rw [c4]; decide)]
          exact ⟨⟨_, rfl⟩, qq53, HG.out⟩
        · go_wp2_with (first | ((go_at_call 87); (with_reducible refine (less_callsI g N c a' (2 * i' + 1) i' _ _ f1 rfl (by omega) (by omega) _ (arr_le HA.out.arr hm) c4).mono ?_); rintro e w1 ⟨rfl, hd⟩; have n0_ := Aside0.mk (HA.out.drawn hd); have n1_ := Aside0.mk (grown_drawn HG.out hd); clear HA HG hm0 hm1 hd; have HA := n0_; have HG := n1_; have hm0 := HA.out.hm0; have hm1 := HA.out.hm1; clear n0_ n1_) | ((go_at_call 89); (with_reducible refine (swap_callsI g N c a' m i' (2 * i' + 1) _ _ rfl f1 (by omega) (by omega) hm _ HA.out.arr).mono ?_); rintro e w1 ⟨⟨v_, rfl⟩, hA2, hg2⟩; have n0_ := Aside0.mk (HA.out.swapped hne hA2 hg2); have n1_ := Aside0.mk (grown_trans HG.out hg2); clear HA HG hm0 hm1 hA2 hg2; have HA := n0_; have HG := n1_; have hm0 := HA.out.hm0; have hm1 := HA.out.hm1; clear n0_ n1_))
          have e : dnR (k + 1) a' i' n = dnR k (swpR a' i' (2 * i' + 1)) (2 * i' + 1) n := by rw [dnR, if_neg c1]; simp only [je]; rw [if_pos c4]
          go_roundg k
          case measure => omega
          case rel => exact ⟨(2 * i' + 1), swpR a' i' (2 * i' + 1), (by first | rfl | (rw [f1]) | (simp [f1])), ⟨by omega, by have := HI.out.2; omega⟩, HA, HG, ⟨HD.out.trans e⟩⟩
end Go.Proofs.Ytmcfhmflncghiaa.HeapW
