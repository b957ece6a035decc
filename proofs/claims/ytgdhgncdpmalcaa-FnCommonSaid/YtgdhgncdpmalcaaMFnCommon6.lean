/- Part 6 of what the proof of this law rests on: the functions of the translation as plain Lean functions with their walks, and the plain laws behind. -/
import Derived.Test.YtgdhgncdpmalcaaMFnCommon5
namespace Go.Proofs.Ytgdhgncdpmalcaa.Q
open Go.RowKit Go.Proofs.YtgdhgncdpmalcaaW.PrintWords Go.Proofs.YtgdhgncdpmalcaaW.PrintLast Go.Proofs.YtgdhgncdpmalcaaW.PrintMore
attribute [local go_sem] max2_int min2_int max_two min_two max_three min_three max_four min_four   -- for this text's walks alone
set_option linter.unusedVariables false
set_option linter.unusedSimpArgs false

/-! ### spec_ParcelSplit: function 35 -/
def spec_ParcelSplit.j0 : Nat → List (S32) → Int → Int → Bool → Option ((List (S32)) × (List (S32)) × Bool)
  | 0, _, _, _, _ => none
  | k + 1, x0, x1, x2, x28 => if x28 = true then (some ((([] : List (S32))), (([] : List (S32))), false)) else ((some (([] : List (S32)) : List (S32))).bind fun y543 => (if 0 ≤ x1 then (if x1 ≤ (wrap64 (x2 + 1)) then (if (wrap64 (x2 + 1)) ≤ (x0.length : Int) then ((some ((x0.take ((wrap64 (x2 + 1)) : Int).toNat).drop (x1 : Int).toNat : List (S32))).bind fun y546 => (if y543.length + y546.length < 8796093022208 then ((some (y543 ++ y546 : List (S32))).bind fun y550 => ((some (([] : List (S32)) : List (S32))).bind fun y553 => (if 0 ≤ x2 then (if x2 ≤ (x0.length : Int) then ((some (x0.drop (x2 : Int).toNat : List (S32))).bind fun y556 => (if y553.length + y556.length < 8796093022208 then ((some (y553 ++ y556 : List (S32))).bind fun y560 => (if 0 ≤ (wrap64 (x1 + 1)) then (if (wrap64 (x1 + 1)) ≤ (x0.length : Int) then ((some (x0.take ((wrap64 (x1 + 1)) : Int).toNat : List (S32))).bind fun y563 => (if y560.length + y563.length < 8796093022208 then ((some (y560 ++ y563 : List (S32))).bind fun y567 => ((spec_ParcelValid.f k y550).bind fun t570 => (if t570 = true then ((spec_ParcelValid.f k y567).bind fun t571 => (if t571 = true then (some (y550, y567, true)) else (some ((([] : List (S32))), (([] : List (S32))), false)))) else (some ((([] : List (S32))), (([] : List (S32))), false))))) else (none))) else (none)) else (none))) else (none))) else (none)) else (none)))) else (none))) else (none)) else (none)) else (none)))
def spec_ParcelSplit.f (k : Nat) (l0 : List (S32)) (a1 : Int) (a2 : Int) : Option ((List (S32)) × (List (S32)) × Bool) := (spec_ParcelValid.f k l0).bind fun t534 => (if t534 = true then ((spec_l6In.f a2 0 (wrap64 ((l0.length : Int) - 1))).bind fun t535 => (if t535 = true then ((spec_l6In.f a1 0 (wrap64 (a2 - 1))).bind fun t536 => (spec_ParcelSplit.j0 k l0 a1 a2 (!t536))) else (spec_ParcelSplit.j0 k l0 a1 a2 true))) else (spec_ParcelSplit.j0 k l0 a1 a2 true))
def spec_ParcelSplit.T4 : Bool × List (List Nat × List Nat) := (true, [([], []), ([], []), ([], []), ([1, 2], [1, 2]), ([0, 3], [0, 3]), ([], []), ([], []), ([6], [6]), ([5, 7], [5, 7]), ([4, 8, 4], [4, 8]), ([9, 9, 0, 1, 2, 3, 4, 5, 6, 7, 8, 9], [9])])
def spec_ParcelSplit.B4 : List Nat := [0, 0, 0, 6, 15, 0, 0, 64, 224, 511, 1023]
theorem spec_ParcelSplit.tab4 : rtab .any (opsOf Try.f35 4) = spec_ParcelSplit.T4 := by kernel_rfl
theorem spec_ParcelSplit.bits4 : waitsOk spec_ParcelSplit.T4.2 spec_ParcelSplit.B4 = true := by kernel_rfl
set_option maxHeartbeats 8000000 in
set_option maxRecDepth 100000 in
theorem spec_ParcelSplit.calls (k : Nat) (A0 : Option Addr) (c0 : Nat) (l0 : List (S32)) (a1 : Int) (a2 : Int) (r1 : List (S32)) (r2 : List (S32)) (r3 : Bool) (w : World) (hr0 : Kd.C k32 w A0 l0.length l0) (hc0 : l0.length ≤ c0) (h : spec_ParcelSplit.f k l0 a1 a2 = some (r1, r2, r3)) :
    Calls Try.prog 35 #[.slice A0 l0.length c0, .int .i64 a1, .int .i64 a2] w fun e w' => ∃ v0_ v1_ : Value, e = .returned (.tuple #[v0_, v1_, .bool r3]) ∧ Kd.R k32 32 w' w.heap.size (fun k_ => some k_ ≠ (v1_ : Value).ownBlock) v0_ r1 ∧ Kd.R k32 32 w' w.heap.size (fun k_ => some k_ ≠ (v0_ : Value).ownBlock) v1_ r2 ∧ Below w.heap.size w w' := by
  have HR0 := Aside0.mk hr0
  have HC0 := Aside0.mk hc0
  clear hr0 hc0
  have HB := Aside0.mk (Below.refl w.heap.size w)
  have H : ((spec_ParcelValid.f k l0).bind fun t534 => (if t534 = true then ((spec_l6In.f a2 0 (wrap64 ((l0.length : Int) - 1))).bind fun t535 => (if t535 = true then ((spec_l6In.f a1 0 (wrap64 (a2 - 1))).bind fun t536 => (spec_ParcelSplit.j0 k l0 a1 a2 (!t536))) else (spec_ParcelSplit.j0 k l0 a1 a2 true))) else (spec_ParcelSplit.j0 k l0 a1 a2 true))) = some (r1, r2, r3) := h
  clear h
  have HC4 := Aside0.mk H
  clear H
  go_enter Try.func35, Try.ntmps35
  go_upto_region 1 with (fail)
  go_cut [28] (fun v28 wc => ∃ (kq : Nat) (x28_3 : Bool), v28 = .bool x28_3 ∧ Aside0 (spec_ParcelSplit.j0 kq l0 a1 a2 x28_3 = some (r1, r2, r3)) ∧ Aside0 (kq ≤ k) ∧ Aside0 (Below w.heap.size w wc))
  case first =>
    have H := HC4.out
    clear HC4
    replace H := Option.bind_eq_some_iff.mp H
    obtain ⟨t534, A50, H⟩ := H
    replace H : (if t534 = true then ((spec_l6In.f a2 0 (wrap64 ((l0.length : Int) - 1))).bind fun t535 => (if t535 = true then ((spec_l6In.f a1 0 (wrap64 (a2 - 1))).bind fun t536 => (spec_ParcelSplit.j0 k l0 a1 a2 (!t536))) else (spec_ParcelSplit.j0 k l0 a1 a2 true))) else (spec_ParcelSplit.j0 k l0 a1 a2 true)) = some (r1, r2, r3) := H
    have A5 := Aside0.mk A50
    clear A50
    by_cases c6 : t534 = true
    · subst c6
      have H1 : ((spec_l6In.f a2 0 (wrap64 ((l0.length : Int) - 1))).bind fun t535 => (if t535 = true then ((spec_l6In.f a1 0 (wrap64 (a2 - 1))).bind fun t536 => (spec_ParcelSplit.j0 k l0 a1 a2 (!t536))) else (spec_ParcelSplit.j0 k l0 a1 a2 true))) = some (r1, r2, r3) := by rw [if_pos rfl] at H; exact H
      clear H
      have H := H1
      clear H1
      replace H := Option.bind_eq_some_iff.mp H
      obtain ⟨t535, A70, H⟩ := H
      replace H : (if t535 = true then ((spec_l6In.f a1 0 (wrap64 (a2 - 1))).bind fun t536 => (spec_ParcelSplit.j0 k l0 a1 a2 (!t536))) else (spec_ParcelSplit.j0 k l0 a1 a2 true)) = some (r1, r2, r3) := H
      have A7 := Aside0.mk A70
      clear A70
      by_cases c8 : t535 = true
      · subst c8
        have H1 : ((spec_l6In.f a1 0 (wrap64 (a2 - 1))).bind fun t536 => (spec_ParcelSplit.j0 k l0 a1 a2 (!t536))) = some (r1, r2, r3) := by rw [if_pos rfl] at H; exact H
        clear H
        have H := H1
        clear H1
        replace H := Option.bind_eq_some_iff.mp H
        obtain ⟨t536, A90, H⟩ := H
        replace H : (spec_ParcelSplit.j0 k l0 a1 a2 (!t536)) = some (r1, r2, r3) := H
        have A9 := Aside0.mk A90
        clear A90
        have H' := Aside0.mk H
        clear H
        go_wp2_with (first | ((with_reducible refine gate_callee (f := 22) rfl ?_); refine goesL_ (some 12) rfl rfl Try.func22 (by kernel_rfl) rfl #[.slice A0 l0.length c0] rfl (by (try simp only [List.map_toArray, List.map_cons, List.map_nil]); first | done | rfl | (simp only [List.length_drop, List.length_take]; rfl)) ?_; (with_reducible refine (spec_ParcelValid.calls k _ _ l0 true _ ?side1 ?side2 A5.out).mono ?_); (case side1 => repeat (first | exact (Kd.C_below HR0.out HB.out) | (with_reducible refine Kd.C_alloc ?_ _) | (with_reducible refine Kd.C_drewN ?_ _) | (with_reducible refine Kd.C_drew ?_))); (case side2 => exact HC0.out); rintro e w10 ⟨rfl, hb⟩; refine ⟨_, rfl, ?_⟩; have n0_ := Aside0.mk (below_step (by repeat (first | (with_reducible first | exact HB.out | apply below_alloc | apply pw_below_drewN | apply below_drew1) | exact HB.out)) hb); clear HB; have HB := n0_; clear n0_; (try clear hb); (try clear hb2); (try clear hk); (try clear hi)) | (go_at_call 67; (with_reducible refine (spec_l6In.calls a2 0 (wrap64 ((l0.length : Int) - 1)) true _ A7.out).mono ?_); rintro e w' ⟨rfl, ⟨nd, rfl⟩⟩) | (go_at_call 67; (with_reducible refine (spec_l6In.calls a1 0 (wrap64 (a2 - 1)) t536 _ A9.out).mono ?_); rintro e w' ⟨rfl, ⟨nd, rfl⟩⟩))
        go_meet
        case rel => exact ⟨_, (!t536), (by first | rfl | (simp; done) | (simp [*]; done)), H', ⟨by first | omega | exact Nat.le_refl _⟩, ⟨by repeat (first | (with_reducible first | exact HB.out | apply below_alloc | apply pw_below_drewN | apply below_drew1) | exact HB.out)⟩⟩
      · replace c8 := Bool.eq_false_iff.mpr c8
        subst c8
        have H1 : (spec_ParcelSplit.j0 k l0 a1 a2 true) = some (r1, r2, r3) := by rw [if_neg (show ¬ (false = true) by decide)] at H; exact H
        clear H
        have H := H1
        clear H1
        have H' := Aside0.mk H
        clear H
        go_wp2_with (first | ((with_reducible refine gate_callee (f := 22) rfl ?_); refine goesL_ (some 12) rfl rfl Try.func22 (by kernel_rfl) rfl #[.slice A0 l0.length c0] rfl (by (try simp only [List.map_toArray, List.map_cons, List.map_nil]); first | done | rfl | (simp only [List.length_drop, List.length_take]; rfl)) ?_; (with_reducible refine (spec_ParcelValid.calls k _ _ l0 true _ ?side1 ?side2 A5.out).mono ?_); (case side1 => repeat (first | exact (Kd.C_below HR0.out HB.out) | (with_reducible refine Kd.C_alloc ?_ _) | (with_reducible refine Kd.C_drewN ?_ _) | (with_reducible refine Kd.C_drew ?_))); (case side2 => exact HC0.out); rintro e w11 ⟨rfl, hb⟩; refine ⟨_, rfl, ?_⟩; have n0_ := Aside0.mk (below_step (by repeat (first | (with_reducible first | exact HB.out | apply below_alloc | apply pw_below_drewN | apply below_drew1) | exact HB.out)) hb); clear HB; have HB := n0_; clear n0_; (try clear hb); (try clear hb2); (try clear hk); (try clear hi)) | (go_at_call 67; (with_reducible refine (spec_l6In.calls a2 0 (wrap64 ((l0.length : Int) - 1)) false _ A7.out).mono ?_); rintro e w' ⟨rfl, ⟨nd, rfl⟩⟩))
        go_meet
        case rel => exact ⟨_, (true), (by first | rfl | (simp; done) | (simp [*]; done)), H', ⟨by first | omega | exact Nat.le_refl _⟩, ⟨by repeat (first | (with_reducible first | exact HB.out | apply below_alloc | apply pw_below_drewN | apply below_drew1) | exact HB.out)⟩⟩
    · replace c6 := Bool.eq_false_iff.mpr c6
      subst c6
      have H1 : (spec_ParcelSplit.j0 k l0 a1 a2 true) = some (r1, r2, r3) := by rw [if_neg (show ¬ (false = true) by decide)] at H; exact H
      clear H
      have H := H1
      clear H1
      have H' := Aside0.mk H
      clear H
      go_wp2_with (first | ((with_reducible refine gate_callee (f := 22) rfl ?_); refine goesL_ (some 12) rfl rfl Try.func22 (by kernel_rfl) rfl #[.slice A0 l0.length c0] rfl (by (try simp only [List.map_toArray, List.map_cons, List.map_nil]); first | done | rfl | (simp only [List.length_drop, List.length_take]; rfl)) ?_; (with_reducible refine (spec_ParcelValid.calls k _ _ l0 false _ ?side1 ?side2 A5.out).mono ?_); (case side1 => repeat (first | exact (Kd.C_below HR0.out HB.out) | (with_reducible refine Kd.C_alloc ?_ _) | (with_reducible refine Kd.C_drewN ?_ _) | (with_reducible refine Kd.C_drew ?_))); (case side2 => exact HC0.out); rintro e w12 ⟨rfl, hb⟩; refine ⟨_, rfl, ?_⟩; have n0_ := Aside0.mk (below_step (by repeat (first | (with_reducible first | exact HB.out | apply below_alloc | apply pw_below_drewN | apply below_drew1) | exact HB.out)) hb); clear HB; have HB := n0_; clear n0_; (try clear hb); (try clear hb2); (try clear hk); (try clear hi)))
      go_meet
      case rel => exact ⟨_, (true), (by first | rfl | (simp; done) | (simp [*]; done)), H', ⟨by first | omega | exact Nat.le_refl _⟩, ⟨by repeat (first | (with_reducible first | exact HB.out | apply below_alloc | apply pw_below_drewN | apply below_drew1) | exact HB.out)⟩⟩
  case rest =>
    clear HC4
    try clear c2
    try clear p2
    try clear c3
    try clear c6
    try clear p6
    try clear c8
    obtain ⟨kq, x28_3, rfl, HA, HJ3, HB⟩ := hcut
    cases kq with
    | zero => exact absurd HA.out (by simp [spec_ParcelSplit.j0])
    | succ kj3 =>
      have H := HA.out
      clear HA
      simp only [spec_ParcelSplit.j0] at H
      by_cases c13 : x28_3 = true
      · subst c13
        have H1 : (some ((([] : List (S32))), (([] : List (S32))), false)) = some (r1, r2, r3) := by rw [if_pos rfl] at H; exact H
        clear H
        have H := H1
        clear H1
        obtain ⟨y537, hy537⟩ : ∃ y_ : List (S32), y_ = (([] : List (S32))) := ⟨_, rfl⟩
        replace H : (some (y537, (([] : List (S32))), false)) = some (r1, r2, r3) := by first | (rw [hy537]; with_reducible exact H) | (have H2_ := (Option.bind_some _ _).symm.trans H; rw [hy537]; with_reducible exact H2_) | (have H2_ := (Option.bind_some _ _).symm.trans H; with_reducible exact H2_) | with_reducible exact H | (rw [hy537]; exact H) | exact H
        have Ny537 := Aside0.mk hy537
        clear hy537
        obtain ⟨y540, hy540⟩ : ∃ y_ : List (S32), y_ = (([] : List (S32))) := ⟨_, rfl⟩
        replace H : (some (y537, y540, false)) = some (r1, r2, r3) := by first | (rw [hy540]; with_reducible exact H) | (have H2_ := (Option.bind_some _ _).symm.trans H; rw [hy540]; with_reducible exact H2_) | (have H2_ := (Option.bind_some _ _).symm.trans H; with_reducible exact H2_) | with_reducible exact H | (rw [hy540]; exact H) | exact H
        have Ny540 := Aside0.mk hy540
        clear hy540
        simp only [Option.some.injEq, Prod.mk.injEq] at H
        obtain ⟨rfl, rfl, rfl⟩ := H
        go_wp2_with (first | ((with_reducible refine gate_dst (N := 29) rfl ?_); (try (refine gate_guard (by rfl) ?_; dsimp only)); refine Kd.R_lit k32 _ 32 ?hg (N := 29) ?hd (xs := ([] : List (S32))) (inner := []) (ok := fun _ => True) (okp := fun _ => True) ?hr ?hp (fun _ hk => hk) trivial (Below.refl _ _) (Nat.le_refl _) (by simp) ?_; (case hd => rfl); (case hg => rfl); (case hr => first | (go_simp; done) | (go_simp; rfl)); (case hp => exact (Reps.none _ _)); intro v538 w14 ho15 hb hg_ hnew_; clear hg_ hnew_; (first | rw [← Ny537.out] at ho15 | (simp only [Int.reduceToNat] at ho15; rw [← Ny537.out] at ho15)); have n0_ := Aside0.mk (Kd.R_lower ho15 (below_size (by repeat (first | (with_reducible first | exact HB.out | apply below_alloc | apply pw_below_drewN | apply below_drew1) | exact HB.out)))); have n1_ := Aside0.mk (below_step (by repeat (first | (with_reducible first | exact HB.out | apply below_alloc | apply pw_below_drewN | apply below_drew1) | exact HB.out)) hb); clear HB; have HO539 := n0_; have HB := n1_; clear n0_ n1_; clear hb ho15) | ((with_reducible refine gate_dst (N := 30) rfl ?_); (try (refine gate_guard (by rfl) ?_; dsimp only)); refine Kd.R_lit k32 _ 32 ?hg (N := 30) ?hd (xs := ([] : List (S32))) (inner := []) (ok := fun _ => True) (okp := fun _ => True) ?hr ?hp (fun _ hk => hk) trivial (Below.refl _ _) (Nat.le_refl _) (by simp) ?_; (case hd => rfl); (case hg => rfl); (case hr => first | (go_simp; done) | (go_simp; rfl)); (case hp => exact (Reps.none _ _)); intro v541 w16 ho17 hb hg_ hnew_; clear hg_ hnew_; (first | rw [← Ny540.out] at ho17 | (simp only [Int.reduceToNat] at ho17; rw [← Ny540.out] at ho17)); have n0_ := Aside0.mk (Kd.R_elder' (by (with_reducible repeat (first | apply Kd.R_alloc | apply Kd.R_drewN | apply Kd.R_drew)); exact HO539.out) (Kd.R_base ho17) hb); have n1_ := Aside0.mk (Kd.R_lower (Kd.R_new' ho17 (Kd.R_lt (by (with_reducible repeat (first | apply Kd.R_alloc | apply Kd.R_drewN | apply Kd.R_drew)); exact HO539.out))) (below_size (by repeat (first | (with_reducible first | exact HB.out | apply below_alloc | apply pw_below_drewN | apply below_drew1) | exact HB.out)))); have n2_ := Aside0.mk (below_step (by repeat (first | (with_reducible first | exact HB.out | apply below_alloc | apply pw_below_drewN | apply below_drew1) | exact HB.out)) hb); clear HO539; clear HB; have HO539 := n0_; have HO542 := n1_; have HB := n2_; clear n0_ n1_ n2_; clear hb ho17))
        go_ret3
        exact ⟨_, _, by first | rfl | (simp [errW_none, errW_some] <;> rfl) | (simp [*, errW_none, errW_some] <;> rfl), by (with_reducible repeat (first | apply Kd.R_alloc | apply Kd.R_drewN | apply Kd.R_drew)); exact Kd.R_mono HO539.out (fun _ hk => hk.2), by (with_reducible repeat (first | apply Kd.R_alloc | apply Kd.R_drewN | apply Kd.R_drew)); exact Kd.R_mono HO542.out (fun _ hk => hk.2), by repeat (first | (with_reducible first | exact HB.out | apply below_alloc | apply pw_below_drewN | apply below_drew1) | exact HB.out)⟩
      · replace c13 := Bool.eq_false_iff.mpr c13
        subst c13
        have H1 : ((some (([] : List (S32)) : List (S32))).bind fun y543 => (if 0 ≤ a1 then (if a1 ≤ (wrap64 (a2 + 1)) then (if (wrap64 (a2 + 1)) ≤ (l0.length : Int) then ((some ((l0.take ((wrap64 (a2 + 1)) : Int).toNat).drop (a1 : Int).toNat : List (S32))).bind fun y546 => (if y543.length + y546.length < 8796093022208 then ((some (y543 ++ y546 : List (S32))).bind fun y550 => ((some (([] : List (S32)) : List (S32))).bind fun y553 => (if 0 ≤ a2 then (if a2 ≤ (l0.length : Int) then ((some (l0.drop (a2 : Int).toNat : List (S32))).bind fun y556 => (if y553.length + y556.length < 8796093022208 then ((some (y553 ++ y556 : List (S32))).bind fun y560 => (if 0 ≤ (wrap64 (a1 + 1)) then (if (wrap64 (a1 + 1)) ≤ (l0.length : Int) then ((some (l0.take ((wrap64 (a1 + 1)) : Int).toNat : List (S32))).bind fun y563 => (if y560.length + y563.length < 8796093022208 then ((some (y560 ++ y563 : List (S32))).bind fun y567 => ((spec_ParcelValid.f kj3 y550).bind fun t570 => (if t570 = true then ((spec_ParcelValid.f kj3 y567).bind fun t571 => (if t571 = true then (some (y550, y567, true)) else (some ((([] : List (S32))), (([] : List (S32))), false)))) else (some ((([] : List (S32))), (([] : List (S32))), false))))) else (none))) else (none)) else (none))) else (none))) else (none)) else (none)))) else (none))) else (none)) else (none)) else (none))) = some (r1, r2, r3) := by rw [if_neg (show ¬ (false = true) by decide)] at H; exact H
        clear H
        have H := H1
        clear H1
        obtain ⟨y543, hy543⟩ : ∃ y_ : List (S32), y_ = (([] : List (S32))) := ⟨_, rfl⟩
        replace H : (if 0 ≤ a1 then (if a1 ≤ (wrap64 (a2 + 1)) then (if (wrap64 (a2 + 1)) ≤ (l0.length : Int) then ((some ((l0.take ((wrap64 (a2 + 1)) : Int).toNat).drop (a1 : Int).toNat : List (S32))).bind fun y546 => (if y543.length + y546.length < 8796093022208 then ((some (y543 ++ y546 : List (S32))).bind fun y550 => ((some (([] : List (S32)) : List (S32))).bind fun y553 => (if 0 ≤ a2 then (if a2 ≤ (l0.length : Int) then ((some (l0.drop (a2 : Int).toNat : List (S32))).bind fun y556 => (if y553.length + y556.length < 8796093022208 then ((some (y553 ++ y556 : List (S32))).bind fun y560 => (if 0 ≤ (wrap64 (a1 + 1)) then (if (wrap64 (a1 + 1)) ≤ (l0.length : Int) then ((some (l0.take ((wrap64 (a1 + 1)) : Int).toNat : List (S32))).bind fun y563 => (if y560.length + y563.length < 8796093022208 then ((some (y560 ++ y563 : List (S32))).bind fun y567 => ((spec_ParcelValid.f kj3 y550).bind fun t570 => (if t570 = true then ((spec_ParcelValid.f kj3 y567).bind fun t571 => (if t571 = true then (some (y550, y567, true)) else (some ((([] : List (S32))), (([] : List (S32))), false)))) else (some ((([] : List (S32))), (([] : List (S32))), false))))) else (none))) else (none)) else (none))) else (none))) else (none)) else (none)))) else (none))) else (none)) else (none)) else (none)) = some (r1, r2, r3) := by first | (rw [hy543]; with_reducible exact H) | (have H2_ := (Option.bind_some _ _).symm.trans H; rw [hy543]; with_reducible exact H2_) | (have H2_ := (Option.bind_some _ _).symm.trans H; with_reducible exact H2_) | with_reducible exact H | (rw [hy543]; exact H) | exact H
        have Ny543 := Aside0.mk hy543
        clear hy543
        by_cases c18 : 0 ≤ a1
        · rw [if_pos c18] at H
          have c18b0 := eq_true c18
          have c18b1 : decide (0 ≤ a1) = true := decide_eq_true c18
          clear c18
          by_cases c19 : a1 ≤ (wrap64 (a2 + 1))
          · rw [if_pos c19] at H
            have c19b0 := eq_true c19
            have c19b1 : decide (a1 ≤ (wrap64 (a2 + 1))) = true := decide_eq_true c19
            by_cases c20 : (wrap64 (a2 + 1)) ≤ (l0.length : Int)
            · rw [if_pos c20] at H
              have c20b0 := eq_true c20
              have c20b1 : decide ((wrap64 (a2 + 1)) ≤ (l0.length : Int)) = true := decide_eq_true c20
              obtain ⟨y546, hy546⟩ : ∃ y_ : List (S32), y_ = ((l0.take ((wrap64 (a2 + 1)) : Int).toNat).drop (a1 : Int).toNat) := ⟨_, rfl⟩
              replace H : (if y543.length + y546.length < 8796093022208 then ((some (y543 ++ y546 : List (S32))).bind fun y550 => ((some (([] : List (S32)) : List (S32))).bind fun y553 => (if 0 ≤ a2 then (if a2 ≤ (l0.length : Int) then ((some (l0.drop (a2 : Int).toNat : List (S32))).bind fun y556 => (if y553.length + y556.length < 8796093022208 then ((some (y553 ++ y556 : List (S32))).bind fun y560 => (if 0 ≤ (wrap64 (a1 + 1)) then (if (wrap64 (a1 + 1)) ≤ (l0.length : Int) then ((some (l0.take ((wrap64 (a1 + 1)) : Int).toNat : List (S32))).bind fun y563 => (if y560.length + y563.length < 8796093022208 then ((some (y560 ++ y563 : List (S32))).bind fun y567 => ((spec_ParcelValid.f kj3 y550).bind fun t570 => (if t570 = true then ((spec_ParcelValid.f kj3 y567).bind fun t571 => (if t571 = true then (some (y550, y567, true)) else (some ((([] : List (S32))), (([] : List (S32))), false)))) else (some ((([] : List (S32))), (([] : List (S32))), false))))) else (none))) else (none)) else (none))) else (none))) else (none)) else (none)))) else (none)) = some (r1, r2, r3) := by first | (rw [hy546]; with_reducible exact H) | (have H2_ := (Option.bind_some _ _).symm.trans H; rw [hy546]; with_reducible exact H2_) | (have H2_ := (Option.bind_some _ _).symm.trans H; with_reducible exact H2_) | with_reducible exact H | (rw [hy546]; exact H) | exact H
              have Ny546 := Aside0.mk hy546
              clear hy546
              by_cases c21 : y543.length + y546.length < 8796093022208
              · rw [if_pos c21] at H
                have LMc21 := Aside0.mk c21
                clear c21
                obtain ⟨y550, hy550⟩ : ∃ y_ : List (S32), y_ = (y543 ++ y546) := ⟨_, rfl⟩
                replace H : ((some (([] : List (S32)) : List (S32))).bind fun y553 => (if 0 ≤ a2 then (if a2 ≤ (l0.length : Int) then ((some (l0.drop (a2 : Int).toNat : List (S32))).bind fun y556 => (if y553.length + y556.length < 8796093022208 then ((some (y553 ++ y556 : List (S32))).bind fun y560 => (if 0 ≤ (wrap64 (a1 + 1)) then (if (wrap64 (a1 + 1)) ≤ (l0.length : Int) then ((some (l0.take ((wrap64 (a1 + 1)) : Int).toNat : List (S32))).bind fun y563 => (if y560.length + y563.length < 8796093022208 then ((some (y560 ++ y563 : List (S32))).bind fun y567 => ((spec_ParcelValid.f kj3 y550).bind fun t570 => (if t570 = true then ((spec_ParcelValid.f kj3 y567).bind fun t571 => (if t571 = true then (some (y550, y567, true)) else (some ((([] : List (S32))), (([] : List (S32))), false)))) else (some ((([] : List (S32))), (([] : List (S32))), false))))) else (none))) else (none)) else (none))) else (none))) else (none)) else (none))) = some (r1, r2, r3) := by first | (rw [hy550]; with_reducible exact H) | (have H2_ := (Option.bind_some _ _).symm.trans H; rw [hy550]; with_reducible exact H2_) | (have H2_ := (Option.bind_some _ _).symm.trans H; with_reducible exact H2_) | with_reducible exact H | (rw [hy550]; exact H) | exact H
                have Ny550 := Aside0.mk hy550
                clear hy550
                obtain ⟨y553, hy553⟩ : ∃ y_ : List (S32), y_ = (([] : List (S32))) := ⟨_, rfl⟩
                replace H : (if 0 ≤ a2 then (if a2 ≤ (l0.length : Int) then ((some (l0.drop (a2 : Int).toNat : List (S32))).bind fun y556 => (if y553.length + y556.length < 8796093022208 then ((some (y553 ++ y556 : List (S32))).bind fun y560 => (if 0 ≤ (wrap64 (a1 + 1)) then (if (wrap64 (a1 + 1)) ≤ (l0.length : Int) then ((some (l0.take ((wrap64 (a1 + 1)) : Int).toNat : List (S32))).bind fun y563 => (if y560.length + y563.length < 8796093022208 then ((some (y560 ++ y563 : List (S32))).bind fun y567 => ((spec_ParcelValid.f kj3 y550).bind fun t570 => (if t570 = true then ((spec_ParcelValid.f kj3 y567).bind fun t571 => (if t571 = true then (some (y550, y567, true)) else (some ((([] : List (S32))), (([] : List (S32))), false)))) else (some ((([] : List (S32))), (([] : List (S32))), false))))) else (none))) else (none)) else (none))) else (none))) else (none)) else (none)) = some (r1, r2, r3) := by first | (rw [hy553]; with_reducible exact H) | (have H2_ := (Option.bind_some _ _).symm.trans H; rw [hy553]; with_reducible exact H2_) | (have H2_ := (Option.bind_some _ _).symm.trans H; with_reducible exact H2_) | with_reducible exact H | (rw [hy553]; exact H) | exact H
                have Ny553 := Aside0.mk hy553
                clear hy553
                by_cases c22 : 0 ≤ a2
                · rw [if_pos c22] at H
                  have c22b0 := eq_true c22
                  have c22b1 : decide (0 ≤ a2) = true := decide_eq_true c22
                  clear c22
                  by_cases c23 : a2 ≤ (l0.length : Int)
                  · rw [if_pos c23] at H
                    have c23b0 := eq_true c23
                    have c23b1 : decide (a2 ≤ (l0.length : Int)) = true := decide_eq_true c23
                    clear c23
                    obtain ⟨y556, hy556⟩ : ∃ y_ : List (S32), y_ = (l0.drop (a2 : Int).toNat) := ⟨_, rfl⟩
                    replace H : (if y553.length + y556.length < 8796093022208 then ((some (y553 ++ y556 : List (S32))).bind fun y560 => (if 0 ≤ (wrap64 (a1 + 1)) then (if (wrap64 (a1 + 1)) ≤ (l0.length : Int) then ((some (l0.take ((wrap64 (a1 + 1)) : Int).toNat : List (S32))).bind fun y563 => (if y560.length + y563.length < 8796093022208 then ((some (y560 ++ y563 : List (S32))).bind fun y567 => ((spec_ParcelValid.f kj3 y550).bind fun t570 => (if t570 = true then ((spec_ParcelValid.f kj3 y567).bind fun t571 => (if t571 = true then (some (y550, y567, true)) else (some ((([] : List (S32))), (([] : List (S32))), false)))) else (some ((([] : List (S32))), (([] : List (S32))), false))))) else (none))) else (none)) else (none))) else (none)) = some (r1, r2, r3) := by first | (rw [hy556]; with_reducible exact H) | (have H2_ := (Option.bind_some _ _).symm.trans H; rw [hy556]; with_reducible exact H2_) | (have H2_ := (Option.bind_some _ _).symm.trans H; with_reducible exact H2_) | with_reducible exact H | (rw [hy556]; exact H) | exact H
                    have Ny556 := Aside0.mk hy556
                    clear hy556
                    by_cases c24 : y553.length + y556.length < 8796093022208
                    · rw [if_pos c24] at H
                      have LMc24 := Aside0.mk c24
                      clear c24
                      obtain ⟨y560, hy560⟩ : ∃ y_ : List (S32), y_ = (y553 ++ y556) := ⟨_, rfl⟩
                      replace H : (if 0 ≤ (wrap64 (a1 + 1)) then (if (wrap64 (a1 + 1)) ≤ (l0.length : Int) then ((some (l0.take ((wrap64 (a1 + 1)) : Int).toNat : List (S32))).bind fun y563 => (if y560.length + y563.length < 8796093022208 then ((some (y560 ++ y563 : List (S32))).bind fun y567 => ((spec_ParcelValid.f kj3 y550).bind fun t570 => (if t570 = true then ((spec_ParcelValid.f kj3 y567).bind fun t571 => (if t571 = true then (some (y550, y567, true)) else (some ((([] : List (S32))), (([] : List (S32))), false)))) else (some ((([] : List (S32))), (([] : List (S32))), false))))) else (none))) else (none)) else (none)) = some (r1, r2, r3) := by first | (rw [hy560]; with_reducible exact H) | (have H2_ := (Option.bind_some _ _).symm.trans H; rw [hy560]; with_reducible exact H2_) | (have H2_ := (Option.bind_some _ _).symm.trans H; with_reducible exact H2_) | with_reducible exact H | (rw [hy560]; exact H) | exact H
                      have Ny560 := Aside0.mk hy560
                      clear hy560
                      obtain ⟨ji25, hji25⟩ : ∃ j_ : Int, (wrap64 (a1 + 1)) = j_ := ⟨_, rfl⟩
                      replace H : (if 0 ≤ (ji25) then (if (ji25) ≤ (l0.length : Int) then ((some (l0.take ((ji25) : Int).toNat : List (S32))).bind fun y563 => (if y560.length + y563.length < 8796093022208 then ((some (y560 ++ y563 : List (S32))).bind fun y567 => ((spec_ParcelValid.f kj3 y550).bind fun t570 => (if t570 = true then ((spec_ParcelValid.f kj3 y567).bind fun t571 => (if t571 = true then (some (y550, y567, true)) else (some ((([] : List (S32))), (([] : List (S32))), false)))) else (some ((([] : List (S32))), (([] : List (S32))), false))))) else (none))) else (none)) else (none)) = some (r1, r2, r3) := by first | (rw [hji25] at H; exact H) | (simp only [hji25] at H ⊢; exact H)
                      have hji25w : (IntKind.i64.wrap (a1 + 1)) = ji25 := (i64_w _).trans hji25
                      by_cases c26 : 0 ≤ (ji25)
                      · rw [if_pos c26] at H
                        have c26b0 := eq_true c26
                        have c26b1 : decide (0 ≤ (ji25)) = true := decide_eq_true c26
                        clear c26
                        by_cases c27 : (ji25) ≤ (l0.length : Int)
                        · rw [if_pos c27] at H
                          have c27b0 := eq_true c27
                          have c27b1 : decide ((ji25) ≤ (l0.length : Int)) = true := decide_eq_true c27
                          clear c27
                          obtain ⟨y563, hy563⟩ : ∃ y_ : List (S32), y_ = (l0.take ((ji25) : Int).toNat) := ⟨_, rfl⟩
                          replace H : (if y560.length + y563.length < 8796093022208 then ((some (y560 ++ y563 : List (S32))).bind fun y567 => ((spec_ParcelValid.f kj3 y550).bind fun t570 => (if t570 = true then ((spec_ParcelValid.f kj3 y567).bind fun t571 => (if t571 = true then (some (y550, y567, true)) else (some ((([] : List (S32))), (([] : List (S32))), false)))) else (some ((([] : List (S32))), (([] : List (S32))), false))))) else (none)) = some (r1, r2, r3) := by first | (rw [hy563]; with_reducible exact H) | (have H2_ := (Option.bind_some _ _).symm.trans H; rw [hy563]; with_reducible exact H2_) | (have H2_ := (Option.bind_some _ _).symm.trans H; with_reducible exact H2_) | with_reducible exact H | (rw [hy563]; exact H) | exact H
                          have Ny563 := Aside0.mk hy563
                          clear hy563
                          by_cases c28 : y560.length + y563.length < 8796093022208
                          · rw [if_pos c28] at H
                            have LMc28 := Aside0.mk c28
                            clear c28
                            obtain ⟨y567, hy567⟩ : ∃ y_ : List (S32), y_ = (y560 ++ y563) := ⟨_, rfl⟩
                            replace H : ((spec_ParcelValid.f kj3 y550).bind fun t570 => (if t570 = true then ((spec_ParcelValid.f kj3 y567).bind fun t571 => (if t571 = true then (some (y550, y567, true)) else (some ((([] : List (S32))), (([] : List (S32))), false)))) else (some ((([] : List (S32))), (([] : List (S32))), false)))) = some (r1, r2, r3) := by first | (rw [hy567]; with_reducible exact H) | (have H2_ := (Option.bind_some _ _).symm.trans H; rw [hy567]; with_reducible exact H2_) | (have H2_ := (Option.bind_some _ _).symm.trans H; with_reducible exact H2_) | with_reducible exact H | (rw [hy567]; exact H) | exact H
                            have Ny567 := Aside0.mk hy567
                            clear hy567
                            replace H := Option.bind_eq_some_iff.mp H
                            obtain ⟨t570, A290, H⟩ := H
                            replace H : (if t570 = true then ((spec_ParcelValid.f kj3 y567).bind fun t571 => (if t571 = true then (some (y550, y567, true)) else (some ((([] : List (S32))), (([] : List (S32))), false)))) else (some ((([] : List (S32))), (([] : List (S32))), false))) = some (r1, r2, r3) := H
                            have A29 := Aside0.mk A290
                            clear A290
                            by_cases c30 : t570 = true
                            · subst c30
                              have H1 : ((spec_ParcelValid.f kj3 y567).bind fun t571 => (if t571 = true then (some (y550, y567, true)) else (some ((([] : List (S32))), (([] : List (S32))), false)))) = some (r1, r2, r3) := by rw [if_pos rfl] at H; exact H
                              clear H
                              have H := H1
                              clear H1
                              replace H := Option.bind_eq_some_iff.mp H
                              obtain ⟨t571, A310, H⟩ := H
                              replace H : (if t571 = true then (some (y550, y567, true)) else (some ((([] : List (S32))), (([] : List (S32))), false))) = some (r1, r2, r3) := H
                              have A31 := Aside0.mk A310
                              clear A310
                              by_cases c32 : t571 = true
                              · subst c32
                                have H1 : (some (y550, y567, true)) = some (r1, r2, r3) := by rw [if_pos rfl] at H; exact H
                                clear H
                                have H := H1
                                clear H1
                                simp only [Option.some.injEq, Prod.mk.injEq] at H
                                obtain ⟨rfl, rfl, rfl⟩ := H
                                try go_wp2_with (first | ((with_reducible refine gate_dst (N := 31) rfl ?_); (try (refine gate_guard (by rfl) ?_; dsimp only)); refine Kd.R_lit k32 _ 32 ?hg (N := 31) ?hd (xs := ([] : List (S32))) (inner := []) (ok := fun _ => True) (okp := fun _ => True) ?hr ?hp (fun _ hk => hk) trivial (Below.refl _ _) (Nat.le_refl _) (by simp) ?_; (case hd => rfl); (case hg => rfl); (case hr => first | (go_simp; done) | (go_simp; rfl)); (case hp => exact (Reps.none _ _)); intro v544 w33 ho34 hb hg_ hnew_; clear hg_ hnew_; (first | rw [← Ny543.out] at ho34 | (simp only [Int.reduceToNat] at ho34; rw [← Ny543.out] at ho34)); have n0_ := Aside0.mk (Kd.R_lower ho34 (below_size (by repeat (first | (with_reducible first | exact HB.out | apply below_alloc | apply pw_below_drewN | apply below_drew1) | exact HB.out)))); have n1_ := Aside0.mk (below_step (by repeat (first | (with_reducible first | exact HB.out | apply below_alloc | apply pw_below_drewN | apply below_drew1) | exact HB.out)) hb); clear HB; have HO545 := n0_; have HB := n1_; clear n0_ n1_; clear hb ho34; have q35 : ((wrap64 (a2 + 1)) : Int) ≤ ((l0.length : Int) : Int) := of_decide_eq_true (by first | (with_reducible assumption) | assumption); obtain ⟨i035, hi035, _, hsz35, _⟩ := info_parts info32; have hroom35 : l0.length ≤ c0 := HC0.out; have hC35 : Kd.C k32 _ A0 l0.length l0 := HR0.out; have ql35 : (a1 : Int) ≤ ((wrap64 (a2 + 1)) : Int) := of_decide_eq_true (by first | (with_reducible assumption) | assumption); have q035 : (0 : Int) ≤ (a1 : Int) := of_decide_eq_true (by first | (with_reducible assumption) | assumption); have hcut35 := cut_mid (P := Try.prog) 23 32 .i64 .i64 Try.underlying23 hi035 2 hsz35 A0 l0.length c0 a1 (wrap64 (a2 + 1)) q035 ql35 q35 hroom35; have hr35 := Kd.C_mid (lo := (a1 : Int).toNat) (hi := ((wrap64 (a2 + 1)) : Int).toNat) (c := c0) hC35 (by omega) (by omega) hroom35; obtain ⟨A35, hA35⟩ : ∃ Az_, Az_ = (if c0 = (a1 : Int).toNat then A0 else (A0 : Option Addr).map (·.add ((a1 : Int).toNat * 2))) := ⟨_, rfl⟩; obtain ⟨c35, hc35⟩ : ∃ cz_, cz_ = c0 - (a1 : Int).toNat := ⟨_, rfl⟩; have hy35 : y546.length = ((wrap64 (a2 + 1)) : Int).toNat - (a1 : Int).toNat := (by rw [Ny546.out, List.length_drop, List.length_take] <;> omega); rw [show ((l0).take ((wrap64 (a2 + 1)) : Int).toNat).drop (a1 : Int).toNat = y546 from Ny546.out.symm] at hr35; replace hr35 : Kd.C k32 _ A35 y546.length y546 := (by rw [hA35]; exact hr35); rw [← hy35, ← hA35, ← hc35] at hcut35; have HR549 := Aside0.mk hr35; have HC549 := Aside0.mk (show y546.length ≤ c35 from by rw [hy35, hc35]; exact Nat.sub_le_sub_right (Nat.le_trans (by omega) hroom35) _); clear hr35 hC35 hroom35 hi035 hsz35 hc35; have KY35 := Aside0.mk hy35; have KA35 := Aside0.mk hA35; clear hy35 hA35; replace q35 := eq_true q35) | ((with_reducible refine gate_builtin (b := .append) (xs := #[.tmp 31, .tmp 36]) rfl ?_); (try (refine gate_guard (by rfl) ?_; dsimp only)); at_builtin; refine Kd.R_append_rows k32 (w0 := w) w.heap.size rfl (.tmp 31) (.tmp 36) 23 32 (.agg #[(.int .i64 0), (.int .i64 0)]) 16 rfl Try.underlying23 info32 rfl (by decide) (by omega) v544 y543 y546 _ _ _ (fun _ => True) (fun _ => False) rfl rfl ?aO ?aR (fun _ _ h => h) (fun _ h => h.elim) ?aF ?aB ?aS ?aL ?_; (case aR => repeat (first | exact (Kd.C_below HR549.out HB.out) | (with_reducible refine Kd.C_alloc ?_ _) | (with_reducible refine Kd.C_drewN ?_ _) | (with_reducible refine Kd.C_drew ?_))); (case aB => exact (by repeat (first | (with_reducible first | exact HB.out | apply below_alloc | apply pw_below_drewN | apply below_drew1) | exact HB.out))); (case aF => exact (fun _ _ => trivial)); (case aO => exact (by (with_reducible repeat (first | apply Kd.R_alloc | apply Kd.R_drewN | apply Kd.R_drew)); exact HO545.out)); (case aS => exact (below_size (by repeat (first | (with_reducible first | exact HB.out | apply below_alloc | apply pw_below_drewN | apply below_drew1) | exact HB.out)))); (case aL => have := LMc21.out; omega); intro v551 w36 ho hb hg hat; rw [← Ny550.out] at ho; have n0_ := Aside0.mk (hb); have n1_ := Aside0.mk (ho); clear HB; clear HO545; have HB := n0_; have HO552 := n1_; clear n0_ n1_; clear ho hb hg hat))
                                have n0_ := Aside0.mk (Kd.R_drew HO552.out)
                                have n1_ := Aside0.mk (below_drew1 HB.out)
                                clear HO552
                                clear HB
                                have HO552 := n0_
                                have HB := n1_
                                clear n0_ n1_
                                have q38 : (a2 : Int) ≤ ((l0.length : Int) : Int) := of_decide_eq_true (by first | (with_reducible assumption) | assumption)
                                obtain ⟨i038, hi038, _, hsz38, _⟩ := info_parts info32
                                have hroom38 : l0.length ≤ c0 := HC0.out
                                have hC38 : Kd.C k32 _ A0 l0.length l0 := HR0.out
                                have q038 : (0 : Int) ≤ (a2 : Int) := of_decide_eq_true (by first | (with_reducible assumption) | assumption)
                                have hcut38 := cut_from (P := Try.prog) 23 32 .i64 Try.underlying23 hi038 2 hsz38 A0 l0.length c0 a2 q038 q38
                                have hr38 := Kd.C_drop (m := (a2 : Int).toNat) (c := c0) hC38 (by omega) hroom38
                                obtain ⟨A38, hA38⟩ : ∃ Az_, Az_ = (if c0 = (a2 : Int).toNat then A0 else (A0 : Option Addr).map (·.add ((a2 : Int).toNat * 2))) := ⟨_, rfl⟩
                                obtain ⟨c38, hc38⟩ : ∃ cz_, cz_ = c0 - (a2 : Int).toNat := ⟨_, rfl⟩
                                have hy38 : y556.length = l0.length - (a2 : Int).toNat := (by rw [Ny556.out, List.length_drop] <;> omega)
                                rw [show (l0).drop (a2 : Int).toNat = y556 from Ny556.out.symm] at hr38
                                replace hr38 : Kd.C k32 _ A38 y556.length y556 := (by rw [hA38]; exact hr38)
                                rw [← hy38, ← hA38, ← hc38] at hcut38
                                have HR559 := Aside0.mk hr38
                                have HC559 := Aside0.mk (show y556.length ≤ c38 from by rw [hy38, hc38]; exact Nat.sub_le_sub_right hroom38 _)
                                clear hr38 hC38 hroom38 hi038 hsz38 hc38
                                have KY38 := Aside0.mk hy38
                                have KA38 := Aside0.mk hA38
                                clear hy38 hA38
                                replace q38 := eq_true q38
                                have q39 : ((ji25) : Int) ≤ ((l0.length : Int) : Int) := of_decide_eq_true (by first | (with_reducible assumption) | assumption)
                                obtain ⟨i039, hi039, _, hsz39, _⟩ := info_parts info32
                                have hroom39 : l0.length ≤ c0 := HC0.out
                                have hC39 : Kd.C k32 _ A0 l0.length l0 := HR0.out
                                have hcut39 := cut_to (P := Try.prog) 23 32 .i64 Try.underlying23 hi039 A0 l0.length c0 (ji25) (of_decide_eq_true (by first | (with_reducible assumption) | assumption)) q39 hroom39
                                have hr39 := Kd.C_take (m := ((ji25) : Int).toNat) hC39 (by omega)
                                have hy39 : y563.length = ((ji25) : Int).toNat := (by rw [Ny563.out, List.length_take]; omega)
                                rw [← Ny563.out] at hr39
                                rw [← hy39] at hcut39
                                have HR566 := Aside0.mk hr39
                                have HC566 := Aside0.mk (show y563.length ≤ c0 from by omega)
                                clear hr39 hC39 hroom39 hi039 hsz39
                                have KY39 := Aside0.mk hy39
                                clear hy39
                                replace q39 := eq_true q39
                                refine start_ (n := 11) (S := fun w' => True) (ds := []) #[false, false, false, false, false, false, false, false, false, false, false] (by kernel_rfl) rfl rfl trivial (fun hHeld => ?_); refine with_tabW spec_ParcelSplit.tab4 spec_ParcelSplit.bits4 (fun HT_ HW_ => ?_)
                                generalize w36.drew = w37 at HO552 HB HR559 HR566 hHeld ⊢
                                refine pure_ (i := 1) (N := some 39) (v := ?_) (a' := ?_) #[false, true, false, false, false, false, false, false, false, false, false] rfl rfl (any_of HT_.out (by kernel_rfl)) (fun _ _ _ h => h) (Or.inl ⟨by rfl, ?_⟩) ?_ ?_
                                rotate_left
                                · intro w'
                                  go_simp
                                  with_reducible rfl
                                rotate_left
                                · simp only [Act.put, List.setIfInBounds_toArray, List.set_cons_zero, List.set_cons_succ, i64_w, i32_w]
                                  rfl
                                refine pure_ (i := 2) (N := some 40) (v := ?_) (a' := ?_) #[false, true, true, false, false, false, false, false, false, false, false] rfl rfl (any_of HT_.out (by kernel_rfl)) (fun _ _ _ h => h) (Or.inl ⟨by rfl, ?_⟩) ?_ ?_
                                rotate_left
                                · intro w'
                                  go_simp
                                  with_reducible rfl
                                rotate_left
                                · simp only [Act.put, List.setIfInBounds_toArray, List.set_cons_zero, List.set_cons_succ, i64_w, i32_w]
                                  rfl
                                refine pure_ (i := 3) (N := some 41) (v := ?_) (a' := ?_) #[false, true, true, true, false, false, false, false, false, false, false] rfl rfl (any_of HT_.out (by kernel_rfl)) (fun _ _ _ h => h) (Or.inl ⟨by rfl, ?_⟩) ?_ ?_
                                rotate_left
                                · intro w'
                                  go_simp
                                  with_reducible rfl
                                rotate_left
                                · simp only [Act.put, List.setIfInBounds_toArray, List.set_cons_zero, List.set_cons_succ, i64_w, i32_w]
                                  rfl
                                refine pure_ (i := 5) (N := some 43) (v := ?_) (a' := ?_) #[false, true, true, true, false, true, false, false, false, false, false] rfl rfl (any_of HT_.out (by kernel_rfl)) (fun _ _ _ h => h) (Or.inl ⟨by rfl, ?_⟩) ?_ ?_
                                rotate_left
                                · intro w'
                                  go_simp
                                  with_reducible rfl
                                rotate_left
                                · simp only [Act.put, List.setIfInBounds_toArray, List.set_cons_zero, List.set_cons_succ, i64_w, i32_w]
                                  rfl
                                refine pure_ (i := 6) (N := some 44) (v := ?_) (a' := ?_) #[false, true, true, true, false, true, true, false, false, false, false] rfl rfl (any_of HT_.out (by kernel_rfl)) (fun _ _ _ h => h) (Or.inl ⟨by rfl, ?_⟩) ?_ ?_
                                rotate_left
                                · intro w'
                                  go_simp
                                  with_reducible rfl
                                rotate_left
                                · simp only [Act.put, List.setIfInBounds_toArray, List.set_cons_zero, List.set_cons_succ, i64_w, i32_w]
                                  rfl
                                refine pure_ (i := 7) (N := some 45) (v := ?_) (a' := ?_) #[false, true, true, true, false, true, true, true, false, false, false] rfl rfl (any_of HT_.out (by kernel_rfl)) (fun _ _ _ h => h) (Or.inl ⟨by rfl, ?_⟩) ?_ ?_
                                rotate_left
                                · intro w'
                                  go_simp
                                  with_reducible rfl
                                rotate_left
                                · simp only [Act.put, List.setIfInBounds_toArray, List.set_cons_zero, List.set_cons_succ, i64_w, i32_w]
                                  rfl
                                refine pure_ (i := 8) (N := some 46) (v := ?_) (a' := ?_) #[false, true, true, true, false, true, true, true, true, false, false] rfl rfl (any_of HT_.out (by kernel_rfl)) (fun _ _ _ h => h) (Or.inl ⟨by rfl, ?_⟩) ?_ ?_
                                rotate_left
                                · intro w'
                                  go_simp
                                  with_reducible rfl
                                rotate_left
                                · simp only [Act.put, List.setIfInBounds_toArray, List.set_cons_zero, List.set_cons_succ, i64_w, i32_w]
                                  rfl
                                refine one_ (i := 0) (N := some 38) #[true, true, true, true, false, true, true, true, true, false, false] rfl rfl (one_of HT_.out (by kernel_rfl)) (by decide) (fun K hK => ?_)
                                refine Kd.R_lit_step k32 _ 32 ?hg (N := 38) ?hd (xs := ([] : List (S32))) (inner := []) (ok := fun _ => True) (okp := fun _ => True) ?hr ?hp (fun _ hk => hk) trivial (Below.refl _ _) (Nat.le_refl _) (by simp) ?_; (case hd => rfl); (case hg => rfl); (case hr => first | (go_simp; done) | (go_simp; rfl)); (case hp => exact (Reps.none _ _))
                                intro v554 w40 ho41 hb hg_ hnew_
                                clear hg_ hnew_
                                (first | rw [← Ny553.out] at ho41 | (simp only [Int.reduceToNat] at ho41; rw [← Ny553.out] at ho41))
                                have n0_ := Aside0.mk (Kd.R_elder' (by (with_reducible repeat (first | apply Kd.R_alloc | apply Kd.R_drewN | apply Kd.R_drew)); exact HO552.out) (Kd.R_base ho41) hb)
                                have n1_ := Aside0.mk (Kd.R_lower (Kd.R_new' ho41 (Kd.R_lt (by (with_reducible repeat (first | apply Kd.R_alloc | apply Kd.R_drewN | apply Kd.R_drew)); exact HO552.out))) (below_size (by repeat (first | (with_reducible first | exact HB.out | apply below_alloc | apply pw_below_drewN | apply below_drew1) | exact HB.out))))
                                have n2_ := Aside0.mk (below_step (by repeat (first | (with_reducible first | exact HB.out | apply below_alloc | apply pw_below_drewN | apply below_drew1) | exact HB.out)) hb)
                                clear HO552
                                clear HB
                                have HO552 := n0_
                                have HO555 := n1_
                                have HB := n2_
                                clear n0_ n1_ n2_
                                clear hb ho41
                                refine hK.out _ _ trivial (fun hHeld => ?_)
                                clear hK K
                                refine norm_ (a' := ?_) ?_ ?_
                                rotate_left
                                · show Act.put _ (some 38) _ = _
                                  simp only [Act.put, List.setIfInBounds_toArray, List.set_cons_zero, List.set_cons_succ, i64_w, i32_w]
                                  rfl
                                refine one_ (i := 4) (N := some 42) #[true, true, true, true, true, true, true, true, true, false, false] rfl rfl (one_of HT_.out (by kernel_rfl)) (by decide) (fun K hK => ?_)
                                refine Kd.R_append_rows_step k32 (w0 := w) w.heap.size (by rfl) (.tmp 38) (.tmp 41) 23 32 (.agg #[(.int .i64 0), (.int .i64 0)]) 16 rfl Try.underlying23 info32 rfl (by decide) (by omega) v554 y553 y556 _ _ _ (fun k_ => some k_ ≠ (v551 : Value).ownBlock) (fun _ => False) rfl rfl ?aO ?aR (fun _ _ h => h) (fun _ h => h.elim) ?aF ?aB ?aS ?aL ?_
                                (case aR => repeat (first | exact (Kd.C_below HR559.out HB.out) | (with_reducible refine Kd.C_alloc ?_ _) | (with_reducible refine Kd.C_drewN ?_ _) | (with_reducible refine Kd.C_drew ?_)))
                                (case aB => exact (by repeat (first | (with_reducible first | exact HB.out | apply below_alloc | apply pw_below_drewN | apply below_drew1) | exact HB.out)))
                                (case aF => exact (fun k_ hk => Kd.fresh' (Kd.R_lt (by (with_reducible repeat (first | apply Kd.R_alloc | apply Kd.R_drewN | apply Kd.R_drew)); exact HO552.out)) k_ hk))
                                (case aO => exact (by (with_reducible repeat (first | apply Kd.R_alloc | apply Kd.R_drewN | apply Kd.R_drew)); exact Kd.R_mono HO555.out (fun _ hk => hk.2)))
                                (case aS => exact (below_size (by repeat (first | (with_reducible first | exact HB.out | apply below_alloc | apply pw_below_drewN | apply below_drew1) | exact HB.out))))
                                (case aL => have := LMc24.out; omega)
                                intro v561 w42 ho hb hg hat
                                rw [← Ny560.out] at ho
                                have n0_ := Aside0.mk (Kd.R_after (ok := (fun _ => True)) (by (with_reducible repeat (first | apply Kd.R_alloc | apply Kd.R_drewN | apply Kd.R_drew)); exact HO552.out) hg hat)
                                have n1_ := Aside0.mk (hb)
                                have n2_ := Aside0.mk (ho)
                                clear HO552
                                clear HB
                                clear HO555
                                have HO552 := n0_
                                have HB := n1_
                                have HO562 := n2_
                                clear n0_ n1_ n2_
                                clear ho hb hg hat
                                refine hK.out _ _ trivial (fun hHeld => ?_)
                                clear hK K
                                refine norm_ (a' := ?_) ?_ ?_
                                rotate_left
                                · show Act.put _ (some 42) _ = _
                                  simp only [Act.put, List.setIfInBounds_toArray, List.set_cons_zero, List.set_cons_succ, i64_w, i32_w]
                                  rfl
                                refine one_ (i := 9) (N := some 47) #[true, true, true, true, true, true, true, true, true, true, false] rfl rfl (one_of HT_.out (by kernel_rfl)) (by decide) (fun K hK => ?_)
                                refine Kd.R_append_rows_step k32 (w0 := w) w.heap.size (by rfl) (.tmp 42) (.tmp 46) 23 32 (.agg #[(.int .i64 0), (.int .i64 0)]) 16 rfl Try.underlying23 info32 rfl (by decide) (by omega) v561 y560 y563 _ _ _ (fun k_ => some k_ ≠ (v551 : Value).ownBlock) (fun _ => False) rfl rfl ?aO ?aR (fun _ _ h => h) (fun _ h => h.elim) ?aF ?aB ?aS ?aL ?_
                                (case aR => repeat (first | exact (Kd.C_below HR566.out HB.out) | (with_reducible refine Kd.C_alloc ?_ _) | (with_reducible refine Kd.C_drewN ?_ _) | (with_reducible refine Kd.C_drew ?_)))
                                (case aB => exact (by repeat (first | (with_reducible first | exact HB.out | apply below_alloc | apply pw_below_drewN | apply below_drew1) | exact HB.out)))
                                (case aF => exact (fun k_ hk => Kd.fresh' (Kd.R_lt (by (with_reducible repeat (first | apply Kd.R_alloc | apply Kd.R_drewN | apply Kd.R_drew)); exact HO552.out)) k_ hk))
                                (case aO => exact (by (with_reducible repeat (first | apply Kd.R_alloc | apply Kd.R_drewN | apply Kd.R_drew)); exact HO562.out))
                                (case aS => exact (below_size (by repeat (first | (with_reducible first | exact HB.out | apply below_alloc | apply pw_below_drewN | apply below_drew1) | exact HB.out))))
                                (case aL => have := LMc28.out; omega)
                                intro v568 w43 ho hb hg hat
                                rw [← Ny567.out] at ho
                                have n0_ := Aside0.mk (Kd.R_after (ok := (fun _ => True)) (by (with_reducible repeat (first | apply Kd.R_alloc | apply Kd.R_drewN | apply Kd.R_drew)); exact HO552.out) hg hat)
                                have n1_ := Aside0.mk (hb)
                                have n2_ := Aside0.mk (ho)
                                clear HO552
                                clear HB
                                clear HO562
                                have HO552 := n0_
                                have HB := n1_
                                have HO569 := n2_
                                clear n0_ n1_ n2_
                                clear ho hb hg hat
                                refine hK.out _ _ trivial (fun hHeld => ?_)
                                clear hK K
                                refine norm_ (a' := ?_) ?_ ?_
                                rotate_left
                                · show Act.put _ (some 47) _ = _
                                  simp only [Act.put, List.setIfInBounds_toArray, List.set_cons_zero, List.set_cons_succ, i64_w, i32_w]
                                  rfl
                                refine pure_ (i := 10) (N := some 10) (v := ?_) (a' := ?_) #[true, true, true, true, true, true, true, true, true, true, true] rfl rfl (any_of HT_.out (by kernel_rfl)) (fun _ _ _ h => h) (Or.inl ⟨by rfl, ?_⟩) ?_ ?_
                                rotate_left
                                · intro w'
                                  go_simp
                                  with_reducible rfl
                                rotate_left
                                · simp only [Act.put, List.setIfInBounds_toArray, List.set_cons_zero, List.set_cons_succ, i64_w, i32_w]
                                  rfl
                                refine done_ (done_of HT_.out (by kernel_rfl)) ?_
                                obtain ⟨Ao44, co44, eo44⟩ := Kd.R_slice HO552.out
                                subst eo44
                                try go_wp2_with (first | ((with_reducible refine gate_callee (f := 22) rfl ?_); refine goesL_ (some 49) rfl rfl Try.func22 (by kernel_rfl) rfl #[.slice Ao44 y550.length co44] rfl (by (try simp only [List.map_toArray, List.map_cons, List.map_nil]); first | done | rfl | (simp only [List.length_drop, List.length_take]; rfl)) ?_; (with_reducible refine (spec_ParcelValid.calls kj3 _ _ y550 true _ ?side1 ?side2 A29.out).mono ?_); (case side1 => repeat (first | exact (Kd.R_reads' HO552.out).2.2 | (with_reducible refine Kd.C_alloc ?_ _) | (with_reducible refine Kd.C_drewN ?_ _) | (with_reducible refine Kd.C_drew ?_))); (case side2 => exact (Kd.R_reads' HO552.out).2.1); rintro e w45 ⟨rfl, hb⟩; refine ⟨_, rfl, ?_⟩; have n0_ := Aside0.mk (Kd.R_below (by (with_reducible repeat (first | apply Kd.R_alloc | apply Kd.R_drewN | apply Kd.R_drew)); exact HO552.out) hb); have n1_ := Aside0.mk (Kd.R_below (by (with_reducible repeat (first | apply Kd.R_alloc | apply Kd.R_drewN | apply Kd.R_drew)); exact HO569.out) hb); have n2_ := Aside0.mk (below_step (by repeat (first | (with_reducible first | exact HB.out | apply below_alloc | apply pw_below_drewN | apply below_drew1) | exact HB.out)) hb); clear HO552; clear HO569; clear HB; have HO552 := n0_; have HO569 := n1_; have HB := n2_; clear n0_ n1_ n2_; (try clear hb); (try clear hb2); (try clear hk); (try clear hi); obtain ⟨Ao46, co46, eo46⟩ := Kd.R_slice HO569.out; subst eo46) | (go_at_call 22; (with_reducible refine (spec_ParcelValid.calls kj3 _ _ y567 true _ ?side1 ?side2 A31.out).mono ?_); (case side1 => repeat (first | exact (Kd.R_reads' HO569.out).2.2 | (with_reducible refine Kd.C_alloc ?_ _) | (with_reducible refine Kd.C_drewN ?_ _) | (with_reducible refine Kd.C_drew ?_))); (case side2 => exact (Kd.R_reads' HO569.out).2.1); rintro e w47 ⟨rfl, hb⟩; have n0_ := Aside0.mk (Kd.R_below (by (with_reducible repeat (first | apply Kd.R_alloc | apply Kd.R_drewN | apply Kd.R_drew)); exact HO552.out) hb); have n1_ := Aside0.mk (Kd.R_below (by (with_reducible repeat (first | apply Kd.R_alloc | apply Kd.R_drewN | apply Kd.R_drew)); exact HO569.out) hb); have n2_ := Aside0.mk (below_step (by repeat (first | (with_reducible first | exact HB.out | apply below_alloc | apply pw_below_drewN | apply below_drew1) | exact HB.out)) hb); clear HO552; clear HO569; clear HB; have HO552 := n0_; have HO569 := n1_; have HB := n2_; clear n0_ n1_ n2_; (try clear hb); (try clear hb2); (try clear hk); (try clear hi)))
                                go_ret3
                                exact ⟨_, _, by first | rfl | (simp [errW_none, errW_some] <;> rfl) | (simp only [← hji25]; first | rfl | (simp [errW_none, errW_some] <;> rfl)) | (simp [*, errW_none, errW_some] <;> rfl), by (with_reducible repeat (first | apply Kd.R_alloc | apply Kd.R_drewN | apply Kd.R_drew)); exact Kd.R_mono HO552.out (fun _ hk => hk.2), by (with_reducible repeat (first | apply Kd.R_alloc | apply Kd.R_drewN | apply Kd.R_drew)); exact HO569.out, by repeat (first | (with_reducible first | exact HB.out | apply below_alloc | apply pw_below_drewN | apply below_drew1) | exact HB.out)⟩
                              · replace c32 := Bool.eq_false_iff.mpr c32
                                subst c32
                                have H1 : (some ((([] : List (S32))), (([] : List (S32))), false)) = some (r1, r2, r3) := by rw [if_neg (show ¬ (false = true) by decide)] at H; exact H
                                clear H
                                have H := H1
                                clear H1
                                obtain ⟨y572, hy572⟩ : ∃ y_ : List (S32), y_ = (([] : List (S32))) := ⟨_, rfl⟩
                                replace H : (some (y572, (([] : List (S32))), false)) = some (r1, r2, r3) := by first | (rw [hy572]; with_reducible exact H) | (have H2_ := (Option.bind_some _ _).symm.trans H; rw [hy572]; with_reducible exact H2_) | (have H2_ := (Option.bind_some _ _).symm.trans H; with_reducible exact H2_) | with_reducible exact H | (rw [hy572]; exact H) | exact H
                                have Ny572 := Aside0.mk hy572
                                clear hy572
                                obtain ⟨y575, hy575⟩ : ∃ y_ : List (S32), y_ = (([] : List (S32))) := ⟨_, rfl⟩
                                replace H : (some (y572, y575, false)) = some (r1, r2, r3) := by first | (rw [hy575]; with_reducible exact H) | (have H2_ := (Option.bind_some _ _).symm.trans H; rw [hy575]; with_reducible exact H2_) | (have H2_ := (Option.bind_some _ _).symm.trans H; with_reducible exact H2_) | with_reducible exact H | (rw [hy575]; exact H) | exact H
                                have Ny575 := Aside0.mk hy575
                                clear hy575
                                simp only [Option.some.injEq, Prod.mk.injEq] at H
                                obtain ⟨rfl, rfl, rfl⟩ := H
                                try go_wp2_with (first | ((with_reducible refine gate_dst (N := 31) rfl ?_); (try (refine gate_guard (by rfl) ?_; dsimp only)); refine Kd.R_lit k32 _ 32 ?hg (N := 31) ?hd (xs := ([] : List (S32))) (inner := []) (ok := fun _ => True) (okp := fun _ => True) ?hr ?hp (fun _ hk => hk) trivial (Below.refl _ _) (Nat.le_refl _) (by simp) ?_; (case hd => rfl); (case hg => rfl); (case hr => first | (go_simp; done) | (go_simp; rfl)); (case hp => exact (Reps.none _ _)); intro v544 w48 ho49 hb hg_ hnew_; clear hg_ hnew_; (first | rw [← Ny543.out] at ho49 | (simp only [Int.reduceToNat] at ho49; rw [← Ny543.out] at ho49)); have n0_ := Aside0.mk (Kd.R_lower ho49 (below_size (by repeat (first | (with_reducible first | exact HB.out | apply below_alloc | apply pw_below_drewN | apply below_drew1) | exact HB.out)))); have n1_ := Aside0.mk (below_step (by repeat (first | (with_reducible first | exact HB.out | apply below_alloc | apply pw_below_drewN | apply below_drew1) | exact HB.out)) hb); clear HB; have HO545 := n0_; have HB := n1_; clear n0_ n1_; clear hb ho49; have q50 : ((wrap64 (a2 + 1)) : Int) ≤ ((l0.length : Int) : Int) := of_decide_eq_true (by first | (with_reducible assumption) | assumption); obtain ⟨i050, hi050, _, hsz50, _⟩ := info_parts info32; have hroom50 : l0.length ≤ c0 := HC0.out; have hC50 : Kd.C k32 _ A0 l0.length l0 := HR0.out; have ql50 : (a1 : Int) ≤ ((wrap64 (a2 + 1)) : Int) := of_decide_eq_true (by first | (with_reducible assumption) | assumption); have q050 : (0 : Int) ≤ (a1 : Int) := of_decide_eq_true (by first | (with_reducible assumption) | assumption); have hcut50 := cut_mid (P := Try.prog) 23 32 .i64 .i64 Try.underlying23 hi050 2 hsz50 A0 l0.length c0 a1 (wrap64 (a2 + 1)) q050 ql50 q50 hroom50; have hr50 := Kd.C_mid (lo := (a1 : Int).toNat) (hi := ((wrap64 (a2 + 1)) : Int).toNat) (c := c0) hC50 (by omega) (by omega) hroom50; obtain ⟨A50, hA50⟩ : ∃ Az_, Az_ = (if c0 = (a1 : Int).toNat then A0 else (A0 : Option Addr).map (·.add ((a1 : Int).toNat * 2))) := ⟨_, rfl⟩; obtain ⟨c50, hc50⟩ : ∃ cz_, cz_ = c0 - (a1 : Int).toNat := ⟨_, rfl⟩; have hy50 : y546.length = ((wrap64 (a2 + 1)) : Int).toNat - (a1 : Int).toNat := (by rw [Ny546.out, List.length_drop, List.length_take] <;> omega); rw [show ((l0).take ((wrap64 (a2 + 1)) : Int).toNat).drop (a1 : Int).toNat = y546 from Ny546.out.symm] at hr50; replace hr50 : Kd.C k32 _ A50 y546.length y546 := (by rw [hA50]; exact hr50); rw [← hy50, ← hA50, ← hc50] at hcut50; have HR549 := Aside0.mk hr50; have HC549 := Aside0.mk (show y546.length ≤ c50 from by rw [hy50, hc50]; exact Nat.sub_le_sub_right (Nat.le_trans (by omega) hroom50) _); clear hr50 hC50 hroom50 hi050 hsz50 hc50; have KY50 := Aside0.mk hy50; have KA50 := Aside0.mk hA50; clear hy50 hA50; replace q50 := eq_true q50) | ((with_reducible refine gate_builtin (b := .append) (xs := #[.tmp 31, .tmp 36]) rfl ?_); (try (refine gate_guard (by rfl) ?_; dsimp only)); at_builtin; refine Kd.R_append_rows k32 (w0 := w) w.heap.size rfl (.tmp 31) (.tmp 36) 23 32 (.agg #[(.int .i64 0), (.int .i64 0)]) 16 rfl Try.underlying23 info32 rfl (by decide) (by omega) v544 y543 y546 _ _ _ (fun _ => True) (fun _ => False) rfl rfl ?aO ?aR (fun _ _ h => h) (fun _ h => h.elim) ?aF ?aB ?aS ?aL ?_; (case aR => repeat (first | exact (Kd.C_below HR549.out HB.out) | (with_reducible refine Kd.C_alloc ?_ _) | (with_reducible refine Kd.C_drewN ?_ _) | (with_reducible refine Kd.C_drew ?_))); (case aB => exact (by repeat (first | (with_reducible first | exact HB.out | apply below_alloc | apply pw_below_drewN | apply below_drew1) | exact HB.out))); (case aF => exact (fun _ _ => trivial)); (case aO => exact (by (with_reducible repeat (first | apply Kd.R_alloc | apply Kd.R_drewN | apply Kd.R_drew)); exact HO545.out)); (case aS => exact (below_size (by repeat (first | (with_reducible first | exact HB.out | apply below_alloc | apply pw_below_drewN | apply below_drew1) | exact HB.out)))); (case aL => have := LMc21.out; omega); intro v551 w51 ho hb hg hat; rw [← Ny550.out] at ho; have n0_ := Aside0.mk (hb); have n1_ := Aside0.mk (ho); clear HB; clear HO545; have HB := n0_; have HO552 := n1_; clear n0_ n1_; clear ho hb hg hat))
                                have n0_ := Aside0.mk (Kd.R_drew HO552.out)
                                have n1_ := Aside0.mk (below_drew1 HB.out)
                                clear HO552
                                clear HB
                                have HO552 := n0_
                                have HB := n1_
                                clear n0_ n1_
                                have q53 : (a2 : Int) ≤ ((l0.length : Int) : Int) := of_decide_eq_true (by first | (with_reducible assumption) | assumption)
                                obtain ⟨i053, hi053, _, hsz53, _⟩ := info_parts info32
                                have hroom53 : l0.length ≤ c0 := HC0.out
                                have hC53 : Kd.C k32 _ A0 l0.length l0 := HR0.out
                                have q053 : (0 : Int) ≤ (a2 : Int) := of_decide_eq_true (by first | (with_reducible assumption) | assumption)
                                have hcut53 := cut_from (P := Try.prog) 23 32 .i64 Try.underlying23 hi053 2 hsz53 A0 l0.length c0 a2 q053 q53
                                have hr53 := Kd.C_drop (m := (a2 : Int).toNat) (c := c0) hC53 (by omega) hroom53
                                obtain ⟨A53, hA53⟩ : ∃ Az_, Az_ = (if c0 = (a2 : Int).toNat then A0 else (A0 : Option Addr).map (·.add ((a2 : Int).toNat * 2))) := ⟨_, rfl⟩
                                obtain ⟨c53, hc53⟩ : ∃ cz_, cz_ = c0 - (a2 : Int).toNat := ⟨_, rfl⟩
                                have hy53 : y556.length = l0.length - (a2 : Int).toNat := (by rw [Ny556.out, List.length_drop] <;> omega)
                                rw [show (l0).drop (a2 : Int).toNat = y556 from Ny556.out.symm] at hr53
                                replace hr53 : Kd.C k32 _ A53 y556.length y556 := (by rw [hA53]; exact hr53)
                                rw [← hy53, ← hA53, ← hc53] at hcut53
                                have HR559 := Aside0.mk hr53
                                have HC559 := Aside0.mk (show y556.length ≤ c53 from by rw [hy53, hc53]; exact Nat.sub_le_sub_right hroom53 _)
                                clear hr53 hC53 hroom53 hi053 hsz53 hc53
                                have KY53 := Aside0.mk hy53
                                have KA53 := Aside0.mk hA53
                                clear hy53 hA53
                                replace q53 := eq_true q53
                                have q54 : ((ji25) : Int) ≤ ((l0.length : Int) : Int) := of_decide_eq_true (by first | (with_reducible assumption) | assumption)
                                obtain ⟨i054, hi054, _, hsz54, _⟩ := info_parts info32
                                have hroom54 : l0.length ≤ c0 := HC0.out
                                have hC54 : Kd.C k32 _ A0 l0.length l0 := HR0.out
                                have hcut54 := cut_to (P := Try.prog) 23 32 .i64 Try.underlying23 hi054 A0 l0.length c0 (ji25) (of_decide_eq_true (by first | (with_reducible assumption) | assumption)) q54 hroom54
                                have hr54 := Kd.C_take (m := ((ji25) : Int).toNat) hC54 (by omega)
                                have hy54 : y563.length = ((ji25) : Int).toNat := (by rw [Ny563.out, List.length_take]; omega)
                                rw [← Ny563.out] at hr54
                                rw [← hy54] at hcut54
                                have HR566 := Aside0.mk hr54
                                have HC566 := Aside0.mk (show y563.length ≤ c0 from by omega)
                                clear hr54 hC54 hroom54 hi054 hsz54
                                have KY54 := Aside0.mk hy54
                                clear hy54
                                replace q54 := eq_true q54
                                refine start_ (n := 11) (S := fun w' => True) (ds := []) #[false, false, false, false, false, false, false, false, false, false, false] (by kernel_rfl) rfl rfl trivial (fun hHeld => ?_); refine with_tabW spec_ParcelSplit.tab4 spec_ParcelSplit.bits4 (fun HT_ HW_ => ?_)
                                generalize w51.drew = w52 at HO552 HB HR559 HR566 hHeld ⊢
                                refine pure_ (i := 1) (N := some 39) (v := ?_) (a' := ?_) #[false, true, false, false, false, false, false, false, false, false, false] rfl rfl (any_of HT_.out (by kernel_rfl)) (fun _ _ _ h => h) (Or.inl ⟨by rfl, ?_⟩) ?_ ?_
                                rotate_left
                                · intro w'
                                  go_simp
                                  with_reducible rfl
                                rotate_left
                                · simp only [Act.put, List.setIfInBounds_toArray, List.set_cons_zero, List.set_cons_succ, i64_w, i32_w]
                                  rfl
                                refine pure_ (i := 2) (N := some 40) (v := ?_) (a' := ?_) #[false, true, true, false, false, false, false, false, false, false, false] rfl rfl (any_of HT_.out (by kernel_rfl)) (fun _ _ _ h => h) (Or.inl ⟨by rfl, ?_⟩) ?_ ?_
                                rotate_left
                                · intro w'
                                  go_simp
                                  with_reducible rfl
                                rotate_left
                                · simp only [Act.put, List.setIfInBounds_toArray, List.set_cons_zero, List.set_cons_succ, i64_w, i32_w]
                                  rfl
                                refine pure_ (i := 3) (N := some 41) (v := ?_) (a' := ?_) #[false, true, true, true, false, false, false, false, false, false, false] rfl rfl (any_of HT_.out (by kernel_rfl)) (fun _ _ _ h => h) (Or.inl ⟨by rfl, ?_⟩) ?_ ?_
                                rotate_left
                                · intro w'
                                  go_simp
                                  with_reducible rfl
                                rotate_left
                                · simp only [Act.put, List.setIfInBounds_toArray, List.set_cons_zero, List.set_cons_succ, i64_w, i32_w]
                                  rfl
                                refine pure_ (i := 5) (N := some 43) (v := ?_) (a' := ?_) #[false, true, true, true, false, true, false, false, false, false, false] rfl rfl (any_of HT_.out (by kernel_rfl)) (fun _ _ _ h => h) (Or.inl ⟨by rfl, ?_⟩) ?_ ?_
                                rotate_left
                                · intro w'
                                  go_simp
                                  with_reducible rfl
                                rotate_left
                                · simp only [Act.put, List.setIfInBounds_toArray, List.set_cons_zero, List.set_cons_succ, i64_w, i32_w]
                                  rfl
                                refine pure_ (i := 6) (N := some 44) (v := ?_) (a' := ?_) #[false, true, true, true, false, true, true, false, false, false, false] rfl rfl (any_of HT_.out (by kernel_rfl)) (fun _ _ _ h => h) (Or.inl ⟨by rfl, ?_⟩) ?_ ?_
                                rotate_left
                                · intro w'
                                  go_simp
                                  with_reducible rfl
                                rotate_left
                                · simp only [Act.put, List.setIfInBounds_toArray, List.set_cons_zero, List.set_cons_succ, i64_w, i32_w]
                                  rfl
                                refine pure_ (i := 7) (N := some 45) (v := ?_) (a' := ?_) #[false, true, true, true, false, true, true, true, false, false, false] rfl rfl (any_of HT_.out (by kernel_rfl)) (fun _ _ _ h => h) (Or.inl ⟨by rfl, ?_⟩) ?_ ?_
                                rotate_left
                                · intro w'
                                  go_simp
                                  with_reducible rfl
                                rotate_left
                                · simp only [Act.put, List.setIfInBounds_toArray, List.set_cons_zero, List.set_cons_succ, i64_w, i32_w]
                                  rfl
                                refine pure_ (i := 8) (N := some 46) (v := ?_) (a' := ?_) #[false, true, true, true, false, true, true, true, true, false, false] rfl rfl (any_of HT_.out (by kernel_rfl)) (fun _ _ _ h => h) (Or.inl ⟨by rfl, ?_⟩) ?_ ?_
                                rotate_left
                                · intro w'
                                  go_simp
                                  with_reducible rfl
                                rotate_left
                                · simp only [Act.put, List.setIfInBounds_toArray, List.set_cons_zero, List.set_cons_succ, i64_w, i32_w]
                                  rfl
                                refine one_ (i := 0) (N := some 38) #[true, true, true, true, false, true, true, true, true, false, false] rfl rfl (one_of HT_.out (by kernel_rfl)) (by decide) (fun K hK => ?_)
                                refine Kd.R_lit_step k32 _ 32 ?hg (N := 38) ?hd (xs := ([] : List (S32))) (inner := []) (ok := fun _ => True) (okp := fun _ => True) ?hr ?hp (fun _ hk => hk) trivial (Below.refl _ _) (Nat.le_refl _) (by simp) ?_; (case hd => rfl); (case hg => rfl); (case hr => first | (go_simp; done) | (go_simp; rfl)); (case hp => exact (Reps.none _ _))
                                intro v554 w55 ho56 hb hg_ hnew_
                                clear hg_ hnew_
                                (first | rw [← Ny553.out] at ho56 | (simp only [Int.reduceToNat] at ho56; rw [← Ny553.out] at ho56))
                                have n0_ := Aside0.mk (Kd.R_elder' (by (with_reducible repeat (first | apply Kd.R_alloc | apply Kd.R_drewN | apply Kd.R_drew)); exact HO552.out) (Kd.R_base ho56) hb)
                                have n1_ := Aside0.mk (Kd.R_lower (Kd.R_new' ho56 (Kd.R_lt (by (with_reducible repeat (first | apply Kd.R_alloc | apply Kd.R_drewN | apply Kd.R_drew)); exact HO552.out))) (below_size (by repeat (first | (with_reducible first | exact HB.out | apply below_alloc | apply pw_below_drewN | apply below_drew1) | exact HB.out))))
                                have n2_ := Aside0.mk (below_step (by repeat (first | (with_reducible first | exact HB.out | apply below_alloc | apply pw_below_drewN | apply below_drew1) | exact HB.out)) hb)
                                clear HO552
                                clear HB
                                have HO552 := n0_
                                have HO555 := n1_
                                have HB := n2_
                                clear n0_ n1_ n2_
                                clear hb ho56
                                refine hK.out _ _ trivial (fun hHeld => ?_)
                                clear hK K
                                refine norm_ (a' := ?_) ?_ ?_
                                rotate_left
                                · show Act.put _ (some 38) _ = _
                                  simp only [Act.put, List.setIfInBounds_toArray, List.set_cons_zero, List.set_cons_succ, i64_w, i32_w]
                                  rfl
                                refine one_ (i := 4) (N := some 42) #[true, true, true, true, true, true, true, true, true, false, false] rfl rfl (one_of HT_.out (by kernel_rfl)) (by decide) (fun K hK => ?_)
                                refine Kd.R_append_rows_step k32 (w0 := w) w.heap.size (by rfl) (.tmp 38) (.tmp 41) 23 32 (.agg #[(.int .i64 0), (.int .i64 0)]) 16 rfl Try.underlying23 info32 rfl (by decide) (by omega) v554 y553 y556 _ _ _ (fun k_ => some k_ ≠ (v551 : Value).ownBlock) (fun _ => False) rfl rfl ?aO ?aR (fun _ _ h => h) (fun _ h => h.elim) ?aF ?aB ?aS ?aL ?_
                                (case aR => repeat (first | exact (Kd.C_below HR559.out HB.out) | (with_reducible refine Kd.C_alloc ?_ _) | (with_reducible refine Kd.C_drewN ?_ _) | (with_reducible refine Kd.C_drew ?_)))
                                (case aB => exact (by repeat (first | (with_reducible first | exact HB.out | apply below_alloc | apply pw_below_drewN | apply below_drew1) | exact HB.out)))
                                (case aF => exact (fun k_ hk => Kd.fresh' (Kd.R_lt (by (with_reducible repeat (first | apply Kd.R_alloc | apply Kd.R_drewN | apply Kd.R_drew)); exact HO552.out)) k_ hk))
                                (case aO => exact (by (with_reducible repeat (first | apply Kd.R_alloc | apply Kd.R_drewN | apply Kd.R_drew)); exact Kd.R_mono HO555.out (fun _ hk => hk.2)))
                                (case aS => exact (below_size (by repeat (first | (with_reducible first | exact HB.out | apply below_alloc | apply pw_below_drewN | apply below_drew1) | exact HB.out))))
                                (case aL => have := LMc24.out; omega)
                                intro v561 w57 ho hb hg hat
                                rw [← Ny560.out] at ho
                                have n0_ := Aside0.mk (Kd.R_after (ok := (fun _ => True)) (by (with_reducible repeat (first | apply Kd.R_alloc | apply Kd.R_drewN | apply Kd.R_drew)); exact HO552.out) hg hat)
                                have n1_ := Aside0.mk (hb)
                                have n2_ := Aside0.mk (ho)
                                clear HO552
                                clear HB
                                clear HO555
                                have HO552 := n0_
                                have HB := n1_
                                have HO562 := n2_
                                clear n0_ n1_ n2_
                                clear ho hb hg hat
                                refine hK.out _ _ trivial (fun hHeld => ?_)
                                clear hK K
                                refine norm_ (a' := ?_) ?_ ?_
                                rotate_left
                                · show Act.put _ (some 42) _ = _
                                  simp only [Act.put, List.setIfInBounds_toArray, List.set_cons_zero, List.set_cons_succ, i64_w, i32_w]
                                  rfl
                                refine one_ (i := 9) (N := some 47) #[true, true, true, true, true, true, true, true, true, true, false] rfl rfl (one_of HT_.out (by kernel_rfl)) (by decide) (fun K hK => ?_)
                                refine Kd.R_append_rows_step k32 (w0 := w) w.heap.size (by rfl) (.tmp 42) (.tmp 46) 23 32 (.agg #[(.int .i64 0), (.int .i64 0)]) 16 rfl Try.underlying23 info32 rfl (by decide) (by omega) v561 y560 y563 _ _ _ (fun k_ => some k_ ≠ (v551 : Value).ownBlock) (fun _ => False) rfl rfl ?aO ?aR (fun _ _ h => h) (fun _ h => h.elim) ?aF ?aB ?aS ?aL ?_
                                (case aR => repeat (first | exact (Kd.C_below HR566.out HB.out) | (with_reducible refine Kd.C_alloc ?_ _) | (with_reducible refine Kd.C_drewN ?_ _) | (with_reducible refine Kd.C_drew ?_)))
                                (case aB => exact (by repeat (first | (with_reducible first | exact HB.out | apply below_alloc | apply pw_below_drewN | apply below_drew1) | exact HB.out)))
                                (case aF => exact (fun k_ hk => Kd.fresh' (Kd.R_lt (by (with_reducible repeat (first | apply Kd.R_alloc | apply Kd.R_drewN | apply Kd.R_drew)); exact HO552.out)) k_ hk))
                                (case aO => exact (by (with_reducible repeat (first | apply Kd.R_alloc | apply Kd.R_drewN | apply Kd.R_drew)); exact HO562.out))
                                (case aS => exact (below_size (by repeat (first | (with_reducible first | exact HB.out | apply below_alloc | apply pw_below_drewN | apply below_drew1) | exact HB.out))))
                                (case aL => have := LMc28.out; omega)
                                intro v568 w58 ho hb hg hat
                                rw [← Ny567.out] at ho
                                have n0_ := Aside0.mk (Kd.R_after (ok := (fun _ => True)) (by (with_reducible repeat (first | apply Kd.R_alloc | apply Kd.R_drewN | apply Kd.R_drew)); exact HO552.out) hg hat)
                                have n1_ := Aside0.mk (hb)
                                have n2_ := Aside0.mk (ho)
                                clear HO552
                                clear HB
                                clear HO562
                                have HO552 := n0_
                                have HB := n1_
                                have HO569 := n2_
                                clear n0_ n1_ n2_
                                clear ho hb hg hat
                                refine hK.out _ _ trivial (fun hHeld => ?_)
                                clear hK K
                                refine norm_ (a' := ?_) ?_ ?_
                                rotate_left
                                · show Act.put _ (some 47) _ = _
                                  simp only [Act.put, List.setIfInBounds_toArray, List.set_cons_zero, List.set_cons_succ, i64_w, i32_w]
                                  rfl
                                refine pure_ (i := 10) (N := some 10) (v := ?_) (a' := ?_) #[true, true, true, true, true, true, true, true, true, true, true] rfl rfl (any_of HT_.out (by kernel_rfl)) (fun _ _ _ h => h) (Or.inl ⟨by rfl, ?_⟩) ?_ ?_
                                rotate_left
                                · intro w'
                                  go_simp
                                  with_reducible rfl
                                rotate_left
                                · simp only [Act.put, List.setIfInBounds_toArray, List.set_cons_zero, List.set_cons_succ, i64_w, i32_w]
                                  rfl
                                refine done_ (done_of HT_.out (by kernel_rfl)) ?_
                                obtain ⟨Ao59, co59, eo59⟩ := Kd.R_slice HO552.out
                                subst eo59
                                try go_wp2_with (first | ((with_reducible refine gate_callee (f := 22) rfl ?_); refine goesL_ (some 49) rfl rfl Try.func22 (by kernel_rfl) rfl #[.slice Ao59 y550.length co59] rfl (by (try simp only [List.map_toArray, List.map_cons, List.map_nil]); first | done | rfl | (simp only [List.length_drop, List.length_take]; rfl)) ?_; (with_reducible refine (spec_ParcelValid.calls kj3 _ _ y550 true _ ?side1 ?side2 A29.out).mono ?_); (case side1 => repeat (first | exact (Kd.R_reads' HO552.out).2.2 | (with_reducible refine Kd.C_alloc ?_ _) | (with_reducible refine Kd.C_drewN ?_ _) | (with_reducible refine Kd.C_drew ?_))); (case side2 => exact (Kd.R_reads' HO552.out).2.1); rintro e w60 ⟨rfl, hb⟩; refine ⟨_, rfl, ?_⟩; have n0_ := Aside0.mk (Kd.R_below (by (with_reducible repeat (first | apply Kd.R_alloc | apply Kd.R_drewN | apply Kd.R_drew)); exact HO552.out) hb); have n1_ := Aside0.mk (Kd.R_below (by (with_reducible repeat (first | apply Kd.R_alloc | apply Kd.R_drewN | apply Kd.R_drew)); exact HO569.out) hb); have n2_ := Aside0.mk (below_step (by repeat (first | (with_reducible first | exact HB.out | apply below_alloc | apply pw_below_drewN | apply below_drew1) | exact HB.out)) hb); clear HO552; clear HO569; clear HB; have HO552 := n0_; have HO569 := n1_; have HB := n2_; clear n0_ n1_ n2_; (try clear hb); (try clear hb2); (try clear hk); (try clear hi); obtain ⟨Ao61, co61, eo61⟩ := Kd.R_slice HO569.out; subst eo61) | (go_at_call 22; (with_reducible refine (spec_ParcelValid.calls kj3 _ _ y567 false _ ?side1 ?side2 A31.out).mono ?_); (case side1 => repeat (first | exact (Kd.R_reads' HO569.out).2.2 | (with_reducible refine Kd.C_alloc ?_ _) | (with_reducible refine Kd.C_drewN ?_ _) | (with_reducible refine Kd.C_drew ?_))); (case side2 => exact (Kd.R_reads' HO569.out).2.1); rintro e w62 ⟨rfl, hb⟩; have n0_ := Aside0.mk (Kd.R_below (by (with_reducible repeat (first | apply Kd.R_alloc | apply Kd.R_drewN | apply Kd.R_drew)); exact HO552.out) hb); have n1_ := Aside0.mk (Kd.R_below (by (with_reducible repeat (first | apply Kd.R_alloc | apply Kd.R_drewN | apply Kd.R_drew)); exact HO569.out) hb); have n2_ := Aside0.mk (below_step (by repeat (first | (with_reducible first | exact HB.out | apply below_alloc | apply pw_below_drewN | apply below_drew1) | exact HB.out)) hb); clear HO552; clear HO569; clear HB; have HO552 := n0_; have HO569 := n1_; have HB := n2_; clear n0_ n1_ n2_; (try clear hb); (try clear hb2); (try clear hk); (try clear hi)) | ((with_reducible refine gate_dst (N := 56) rfl ?_); (try (refine gate_guard (by rfl) ?_; dsimp only)); refine Kd.R_lit k32 _ 32 ?hg (N := 56) ?hd (xs := ([] : List (S32))) (inner := []) (ok := fun _ => True) (okp := fun _ => True) ?hr ?hp (fun _ hk => hk) trivial (Below.refl _ _) (Nat.le_refl _) (by simp) ?_; (case hd => rfl); (case hg => rfl); (case hr => first | (go_simp; done) | (go_simp; rfl)); (case hp => exact (Reps.none _ _)); intro v573 w63 ho64 hb hg_ hnew_; clear hg_ hnew_; (first | rw [← Ny572.out] at ho64 | (simp only [Int.reduceToNat] at ho64; rw [← Ny572.out] at ho64)); have n0_ := Aside0.mk (Kd.R_elder' (by (with_reducible repeat (first | apply Kd.R_alloc | apply Kd.R_drewN | apply Kd.R_drew)); exact HO552.out) (Kd.R_base ho64) hb); have n1_ := Aside0.mk (Kd.R_elder' (by (with_reducible repeat (first | apply Kd.R_alloc | apply Kd.R_drewN | apply Kd.R_drew)); exact HO569.out) (Kd.R_base ho64) hb); have n2_ := Aside0.mk (Kd.R_lower (Kd.R_new' (Kd.R_new' ho64 (Kd.R_lt (by (with_reducible repeat (first | apply Kd.R_alloc | apply Kd.R_drewN | apply Kd.R_drew)); exact HO552.out))) (Kd.R_lt (by (with_reducible repeat (first | apply Kd.R_alloc | apply Kd.R_drewN | apply Kd.R_drew)); exact HO569.out))) (below_size (by repeat (first | (with_reducible first | exact HB.out | apply below_alloc | apply pw_below_drewN | apply below_drew1) | exact HB.out)))); have n3_ := Aside0.mk (below_step (by repeat (first | (with_reducible first | exact HB.out | apply below_alloc | apply pw_below_drewN | apply below_drew1) | exact HB.out)) hb); clear HO552; clear HO569; clear HB; have HO552 := n0_; have HO569 := n1_; have HO574 := n2_; have HB := n3_; clear n0_ n1_ n2_ n3_; clear hb ho64) | ((with_reducible refine gate_dst (N := 57) rfl ?_); (try (refine gate_guard (by rfl) ?_; dsimp only)); refine Kd.R_lit k32 _ 32 ?hg (N := 57) ?hd (xs := ([] : List (S32))) (inner := []) (ok := fun _ => True) (okp := fun _ => True) ?hr ?hp (fun _ hk => hk) trivial (Below.refl _ _) (Nat.le_refl _) (by simp) ?_; (case hd => rfl); (case hg => rfl); (case hr => first | (go_simp; done) | (go_simp; rfl)); (case hp => exact (Reps.none _ _)); intro v576 w65 ho66 hb hg_ hnew_; clear hg_ hnew_; (first | rw [← Ny575.out] at ho66 | (simp only [Int.reduceToNat] at ho66; rw [← Ny575.out] at ho66)); have n0_ := Aside0.mk (Kd.R_elder' (by (with_reducible repeat (first | apply Kd.R_alloc | apply Kd.R_drewN | apply Kd.R_drew)); exact HO552.out) (Kd.R_base ho66) hb); have n1_ := Aside0.mk (Kd.R_elder' (by (with_reducible repeat (first | apply Kd.R_alloc | apply Kd.R_drewN | apply Kd.R_drew)); exact HO569.out) (Kd.R_base ho66) hb); have n2_ := Aside0.mk (Kd.R_elder' (by (with_reducible repeat (first | apply Kd.R_alloc | apply Kd.R_drewN | apply Kd.R_drew)); exact HO574.out) (Kd.R_base ho66) hb); have n3_ := Aside0.mk (Kd.R_lower (Kd.R_new' (Kd.R_new' (Kd.R_new' ho66 (Kd.R_lt (by (with_reducible repeat (first | apply Kd.R_alloc | apply Kd.R_drewN | apply Kd.R_drew)); exact HO552.out))) (Kd.R_lt (by (with_reducible repeat (first | apply Kd.R_alloc | apply Kd.R_drewN | apply Kd.R_drew)); exact HO569.out))) (Kd.R_lt (by (with_reducible repeat (first | apply Kd.R_alloc | apply Kd.R_drewN | apply Kd.R_drew)); exact HO574.out))) (below_size (by repeat (first | (with_reducible first | exact HB.out | apply below_alloc | apply pw_below_drewN | apply below_drew1) | exact HB.out)))); have n4_ := Aside0.mk (below_step (by repeat (first | (with_reducible first | exact HB.out | apply below_alloc | apply pw_below_drewN | apply below_drew1) | exact HB.out)) hb); clear HO552; clear HO569; clear HO574; clear HB; have HO552 := n0_; have HO569 := n1_; have HO574 := n2_; have HO577 := n3_; have HB := n4_; clear n0_ n1_ n2_ n3_ n4_; clear hb ho66))
                                go_ret3
                                exact ⟨_, _, by first | rfl | (simp [errW_none, errW_some] <;> rfl) | (simp only [← hji25]; first | rfl | (simp [errW_none, errW_some] <;> rfl)) | (simp [*, errW_none, errW_some] <;> rfl), by (with_reducible repeat (first | apply Kd.R_alloc | apply Kd.R_drewN | apply Kd.R_drew)); exact Kd.R_mono HO574.out (fun _ hk => hk.2), by (with_reducible repeat (first | apply Kd.R_alloc | apply Kd.R_drewN | apply Kd.R_drew)); exact Kd.R_mono HO577.out (fun _ hk => hk.2), by repeat (first | (with_reducible first | exact HB.out | apply below_alloc | apply pw_below_drewN | apply below_drew1) | exact HB.out)⟩
                            · replace c30 := Bool.eq_false_iff.mpr c30
                              subst c30
                              have H1 : (some ((([] : List (S32))), (([] : List (S32))), false)) = some (r1, r2, r3) := by rw [if_neg (show ¬ (false = true) by decide)] at H; exact H
                              clear H
                              have H := H1
                              clear H1
                              obtain ⟨y578, hy578⟩ : ∃ y_ : List (S32), y_ = (([] : List (S32))) := ⟨_, rfl⟩
                              replace H : (some (y578, (([] : List (S32))), false)) = some (r1, r2, r3) := by first | (rw [hy578]; with_reducible exact H) | (have H2_ := (Option.bind_some _ _).symm.trans H; rw [hy578]; with_reducible exact H2_) | (have H2_ := (Option.bind_some _ _).symm.trans H; with_reducible exact H2_) | with_reducible exact H | (rw [hy578]; exact H) | exact H
                              have Ny578 := Aside0.mk hy578
                              clear hy578
                              obtain ⟨y581, hy581⟩ : ∃ y_ : List (S32), y_ = (([] : List (S32))) := ⟨_, rfl⟩
                              replace H : (some (y578, y581, false)) = some (r1, r2, r3) := by first | (rw [hy581]; with_reducible exact H) | (have H2_ := (Option.bind_some _ _).symm.trans H; rw [hy581]; with_reducible exact H2_) | (have H2_ := (Option.bind_some _ _).symm.trans H; with_reducible exact H2_) | with_reducible exact H | (rw [hy581]; exact H) | exact H
                              have Ny581 := Aside0.mk hy581
                              clear hy581
                              simp only [Option.some.injEq, Prod.mk.injEq] at H
                              obtain ⟨rfl, rfl, rfl⟩ := H
                              try go_wp2_with (first | ((with_reducible refine gate_dst (N := 31) rfl ?_); (try (refine gate_guard (by rfl) ?_; dsimp only)); refine Kd.R_lit k32 _ 32 ?hg (N := 31) ?hd (xs := ([] : List (S32))) (inner := []) (ok := fun _ => True) (okp := fun _ => True) ?hr ?hp (fun _ hk => hk) trivial (Below.refl _ _) (Nat.le_refl _) (by simp) ?_; (case hd => rfl); (case hg => rfl); (case hr => first | (go_simp; done) | (go_simp; rfl)); (case hp => exact (Reps.none _ _)); intro v544 w67 ho68 hb hg_ hnew_; clear hg_ hnew_; (first | rw [← Ny543.out] at ho68 | (simp only [Int.reduceToNat] at ho68; rw [← Ny543.out] at ho68)); have n0_ := Aside0.mk (Kd.R_lower ho68 (below_size (by repeat (first | (with_reducible first | exact HB.out | apply below_alloc | apply pw_below_drewN | apply below_drew1) | exact HB.out)))); have n1_ := Aside0.mk (below_step (by repeat (first | (with_reducible first | exact HB.out | apply below_alloc | apply pw_below_drewN | apply below_drew1) | exact HB.out)) hb); clear HB; have HO545 := n0_; have HB := n1_; clear n0_ n1_; clear hb ho68; have q69 : ((wrap64 (a2 + 1)) : Int) ≤ ((l0.length : Int) : Int) := of_decide_eq_true (by first | (with_reducible assumption) | assumption); obtain ⟨i069, hi069, _, hsz69, _⟩ := info_parts info32; have hroom69 : l0.length ≤ c0 := HC0.out; have hC69 : Kd.C k32 _ A0 l0.length l0 := HR0.out; have ql69 : (a1 : Int) ≤ ((wrap64 (a2 + 1)) : Int) := of_decide_eq_true (by first | (with_reducible assumption) | assumption); have q069 : (0 : Int) ≤ (a1 : Int) := of_decide_eq_true (by first | (with_reducible assumption) | assumption); have hcut69 := cut_mid (P := Try.prog) 23 32 .i64 .i64 Try.underlying23 hi069 2 hsz69 A0 l0.length c0 a1 (wrap64 (a2 + 1)) q069 ql69 q69 hroom69; have hr69 := Kd.C_mid (lo := (a1 : Int).toNat) (hi := ((wrap64 (a2 + 1)) : Int).toNat) (c := c0) hC69 (by omega) (by omega) hroom69; obtain ⟨A69, hA69⟩ : ∃ Az_, Az_ = (if c0 = (a1 : Int).toNat then A0 else (A0 : Option Addr).map (·.add ((a1 : Int).toNat * 2))) := ⟨_, rfl⟩; obtain ⟨c69, hc69⟩ : ∃ cz_, cz_ = c0 - (a1 : Int).toNat := ⟨_, rfl⟩; have hy69 : y546.length = ((wrap64 (a2 + 1)) : Int).toNat - (a1 : Int).toNat := (by rw [Ny546.out, List.length_drop, List.length_take] <;> omega); rw [show ((l0).take ((wrap64 (a2 + 1)) : Int).toNat).drop (a1 : Int).toNat = y546 from Ny546.out.symm] at hr69; replace hr69 : Kd.C k32 _ A69 y546.length y546 := (by rw [hA69]; exact hr69); rw [← hy69, ← hA69, ← hc69] at hcut69; have HR549 := Aside0.mk hr69; have HC549 := Aside0.mk (show y546.length ≤ c69 from by rw [hy69, hc69]; exact Nat.sub_le_sub_right (Nat.le_trans (by omega) hroom69) _); clear hr69 hC69 hroom69 hi069 hsz69 hc69; have KY69 := Aside0.mk hy69; have KA69 := Aside0.mk hA69; clear hy69 hA69; replace q69 := eq_true q69) | ((with_reducible refine gate_builtin (b := .append) (xs := #[.tmp 31, .tmp 36]) rfl ?_); (try (refine gate_guard (by rfl) ?_; dsimp only)); at_builtin; refine Kd.R_append_rows k32 (w0 := w) w.heap.size rfl (.tmp 31) (.tmp 36) 23 32 (.agg #[(.int .i64 0), (.int .i64 0)]) 16 rfl Try.underlying23 info32 rfl (by decide) (by omega) v544 y543 y546 _ _ _ (fun _ => True) (fun _ => False) rfl rfl ?aO ?aR (fun _ _ h => h) (fun _ h => h.elim) ?aF ?aB ?aS ?aL ?_; (case aR => repeat (first | exact (Kd.C_below HR549.out HB.out) | (with_reducible refine Kd.C_alloc ?_ _) | (with_reducible refine Kd.C_drewN ?_ _) | (with_reducible refine Kd.C_drew ?_))); (case aB => exact (by repeat (first | (with_reducible first | exact HB.out | apply below_alloc | apply pw_below_drewN | apply below_drew1) | exact HB.out))); (case aF => exact (fun _ _ => trivial)); (case aO => exact (by (with_reducible repeat (first | apply Kd.R_alloc | apply Kd.R_drewN | apply Kd.R_drew)); exact HO545.out)); (case aS => exact (below_size (by repeat (first | (with_reducible first | exact HB.out | apply below_alloc | apply pw_below_drewN | apply below_drew1) | exact HB.out)))); (case aL => have := LMc21.out; omega); intro v551 w70 ho hb hg hat; rw [← Ny550.out] at ho; have n0_ := Aside0.mk (hb); have n1_ := Aside0.mk (ho); clear HB; clear HO545; have HB := n0_; have HO552 := n1_; clear n0_ n1_; clear ho hb hg hat))
                              have n0_ := Aside0.mk (Kd.R_drew HO552.out)
                              have n1_ := Aside0.mk (below_drew1 HB.out)
                              clear HO552
                              clear HB
                              have HO552 := n0_
                              have HB := n1_
                              clear n0_ n1_
                              have q72 : (a2 : Int) ≤ ((l0.length : Int) : Int) := of_decide_eq_true (by first | (with_reducible assumption) | assumption)
                              obtain ⟨i072, hi072, _, hsz72, _⟩ := info_parts info32
                              have hroom72 : l0.length ≤ c0 := HC0.out
                              have hC72 : Kd.C k32 _ A0 l0.length l0 := HR0.out
                              have q072 : (0 : Int) ≤ (a2 : Int) := of_decide_eq_true (by first | (with_reducible assumption) | assumption)
                              have hcut72 := cut_from (P := Try.prog) 23 32 .i64 Try.underlying23 hi072 2 hsz72 A0 l0.length c0 a2 q072 q72
                              have hr72 := Kd.C_drop (m := (a2 : Int).toNat) (c := c0) hC72 (by omega) hroom72
                              obtain ⟨A72, hA72⟩ : ∃ Az_, Az_ = (if c0 = (a2 : Int).toNat then A0 else (A0 : Option Addr).map (·.add ((a2 : Int).toNat * 2))) := ⟨_, rfl⟩
                              obtain ⟨c72, hc72⟩ : ∃ cz_, cz_ = c0 - (a2 : Int).toNat := ⟨_, rfl⟩
                              have hy72 : y556.length = l0.length - (a2 : Int).toNat := (by rw [Ny556.out, List.length_drop] <;> omega)
                              rw [show (l0).drop (a2 : Int).toNat = y556 from Ny556.out.symm] at hr72
                              replace hr72 : Kd.C k32 _ A72 y556.length y556 := (by rw [hA72]; exact hr72)
                              rw [← hy72, ← hA72, ← hc72] at hcut72
                              have HR559 := Aside0.mk hr72
                              have HC559 := Aside0.mk (show y556.length ≤ c72 from by rw [hy72, hc72]; exact Nat.sub_le_sub_right hroom72 _)
                              clear hr72 hC72 hroom72 hi072 hsz72 hc72
                              have KY72 := Aside0.mk hy72
                              have KA72 := Aside0.mk hA72
                              clear hy72 hA72
                              replace q72 := eq_true q72
                              have q73 : ((ji25) : Int) ≤ ((l0.length : Int) : Int) := of_decide_eq_true (by first | (with_reducible assumption) | assumption)
                              obtain ⟨i073, hi073, _, hsz73, _⟩ := info_parts info32
                              have hroom73 : l0.length ≤ c0 := HC0.out
                              have hC73 : Kd.C k32 _ A0 l0.length l0 := HR0.out
                              have hcut73 := cut_to (P := Try.prog) 23 32 .i64 Try.underlying23 hi073 A0 l0.length c0 (ji25) (of_decide_eq_true (by first | (with_reducible assumption) | assumption)) q73 hroom73
                              have hr73 := Kd.C_take (m := ((ji25) : Int).toNat) hC73 (by omega)
                              have hy73 : y563.length = ((ji25) : Int).toNat := (by rw [Ny563.out, List.length_take]; omega)
                              rw [← Ny563.out] at hr73
                              rw [← hy73] at hcut73
                              have HR566 := Aside0.mk hr73
                              have HC566 := Aside0.mk (show y563.length ≤ c0 from by omega)
                              clear hr73 hC73 hroom73 hi073 hsz73
                              have KY73 := Aside0.mk hy73
                              clear hy73
                              replace q73 := eq_true q73
                              refine start_ (n := 11) (S := fun w' => True) (ds := []) #[false, false, false, false, false, false, false, false, false, false, false] (by kernel_rfl) rfl rfl trivial (fun hHeld => ?_); refine with_tabW spec_ParcelSplit.tab4 spec_ParcelSplit.bits4 (fun HT_ HW_ => ?_)
                              generalize w70.drew = w71 at HO552 HB HR559 HR566 hHeld ⊢
                              refine pure_ (i := 1) (N := some 39) (v := ?_) (a' := ?_) #[false, true, false, false, false, false, false, false, false, false, false] rfl rfl (any_of HT_.out (by kernel_rfl)) (fun _ _ _ h => h) (Or.inl ⟨by rfl, ?_⟩) ?_ ?_
                              rotate_left
                              · intro w'
                                go_simp
                                with_reducible rfl
                              rotate_left
                              · simp only [Act.put, List.setIfInBounds_toArray, List.set_cons_zero, List.set_cons_succ, i64_w, i32_w]
                                rfl
                              refine pure_ (i := 2) (N := some 40) (v := ?_) (a' := ?_) #[false, true, true, false, false, false, false, false, false, false, false] rfl rfl (any_of HT_.out (by kernel_rfl)) (fun _ _ _ h => h) (Or.inl ⟨by rfl, ?_⟩) ?_ ?_
                              rotate_left
                              · intro w'
                                go_simp
                                with_reducible rfl
                              rotate_left
                              · simp only [Act.put, List.setIfInBounds_toArray, List.set_cons_zero, List.set_cons_succ, i64_w, i32_w]
                                rfl
                              refine pure_ (i := 3) (N := some 41) (v := ?_) (a' := ?_) #[false, true, true, true, false, false, false, false, false, false, false] rfl rfl (any_of HT_.out (by kernel_rfl)) (fun _ _ _ h => h) (Or.inl ⟨by rfl, ?_⟩) ?_ ?_
                              rotate_left
                              · intro w'
                                go_simp
                                with_reducible rfl
                              rotate_left
                              · simp only [Act.put, List.setIfInBounds_toArray, List.set_cons_zero, List.set_cons_succ, i64_w, i32_w]
                                rfl
                              refine pure_ (i := 5) (N := some 43) (v := ?_) (a' := ?_) #[false, true, true, true, false, true, false, false, false, false, false] rfl rfl (any_of HT_.out (by kernel_rfl)) (fun _ _ _ h => h) (Or.inl ⟨by rfl, ?_⟩) ?_ ?_
                              rotate_left
                              · intro w'
                                go_simp
                                with_reducible rfl
                              rotate_left
                              · simp only [Act.put, List.setIfInBounds_toArray, List.set_cons_zero, List.set_cons_succ, i64_w, i32_w]
                                rfl
                              refine pure_ (i := 6) (N := some 44) (v := ?_) (a' := ?_) #[false, true, true, true, false, true, true, false, false, false, false] rfl rfl (any_of HT_.out (by kernel_rfl)) (fun _ _ _ h => h) (Or.inl ⟨by rfl, ?_⟩) ?_ ?_
                              rotate_left
                              · intro w'
                                go_simp
                                with_reducible rfl
                              rotate_left
                              · simp only [Act.put, List.setIfInBounds_toArray, List.set_cons_zero, List.set_cons_succ, i64_w, i32_w]
                                rfl
                              refine pure_ (i := 7) (N := some 45) (v := ?_) (a' := ?_) #[false, true, true, true, false, true, true, true, false, false, false] rfl rfl (any_of HT_.out (by kernel_rfl)) (fun _ _ _ h => h) (Or.inl ⟨by rfl, ?_⟩) ?_ ?_
                              rotate_left
                              · intro w'
                                go_simp
                                with_reducible rfl
                              rotate_left
                              · simp only [Act.put, List.setIfInBounds_toArray, List.set_cons_zero, List.set_cons_succ, i64_w, i32_w]
                                rfl
                              refine pure_ (i := 8) (N := some 46) (v := ?_) (a' := ?_) #[false, true, true, true, false, true, true, true, true, false, false] rfl rfl (any_of HT_.out (by kernel_rfl)) (fun _ _ _ h => h) (Or.inl ⟨by rfl, ?_⟩) ?_ ?_
                              rotate_left
                              · intro w'
                                go_simp
                                with_reducible rfl
                              rotate_left
                              · simp only [Act.put, List.setIfInBounds_toArray, List.set_cons_zero, List.set_cons_succ, i64_w, i32_w]
                                rfl
                              refine one_ (i := 0) (N := some 38) #[true, true, true, true, false, true, true, true, true, false, false] rfl rfl (one_of HT_.out (by kernel_rfl)) (by decide) (fun K hK => ?_)
                              refine Kd.R_lit_step k32 _ 32 ?hg (N := 38) ?hd (xs := ([] : List (S32))) (inner := []) (ok := fun _ => True) (okp := fun _ => True) ?hr ?hp (fun _ hk => hk) trivial (Below.refl _ _) (Nat.le_refl _) (by simp) ?_; (case hd => rfl); (case hg => rfl); (case hr => first | (go_simp; done) | (go_simp; rfl)); (case hp => exact (Reps.none _ _))
                              intro v554 w74 ho75 hb hg_ hnew_
                              clear hg_ hnew_
                              (first | rw [← Ny553.out] at ho75 | (simp only [Int.reduceToNat] at ho75; rw [← Ny553.out] at ho75))
                              have n0_ := Aside0.mk (Kd.R_elder' (by (with_reducible repeat (first | apply Kd.R_alloc | apply Kd.R_drewN | apply Kd.R_drew)); exact HO552.out) (Kd.R_base ho75) hb)
                              have n1_ := Aside0.mk (Kd.R_lower (Kd.R_new' ho75 (Kd.R_lt (by (with_reducible repeat (first | apply Kd.R_alloc | apply Kd.R_drewN | apply Kd.R_drew)); exact HO552.out))) (below_size (by repeat (first | (with_reducible first | exact HB.out | apply below_alloc | apply pw_below_drewN | apply below_drew1) | exact HB.out))))
                              have n2_ := Aside0.mk (below_step (by repeat (first | (with_reducible first | exact HB.out | apply below_alloc | apply pw_below_drewN | apply below_drew1) | exact HB.out)) hb)
                              clear HO552
                              clear HB
                              have HO552 := n0_
                              have HO555 := n1_
                              have HB := n2_
                              clear n0_ n1_ n2_
                              clear hb ho75
                              refine hK.out _ _ trivial (fun hHeld => ?_)
                              clear hK K
                              refine norm_ (a' := ?_) ?_ ?_
                              rotate_left
                              · show Act.put _ (some 38) _ = _
                                simp only [Act.put, List.setIfInBounds_toArray, List.set_cons_zero, List.set_cons_succ, i64_w, i32_w]
                                rfl
                              refine one_ (i := 4) (N := some 42) #[true, true, true, true, true, true, true, true, true, false, false] rfl rfl (one_of HT_.out (by kernel_rfl)) (by decide) (fun K hK => ?_)
                              refine Kd.R_append_rows_step k32 (w0 := w) w.heap.size (by rfl) (.tmp 38) (.tmp 41) 23 32 (.agg #[(.int .i64 0), (.int .i64 0)]) 16 rfl Try.underlying23 info32 rfl (by decide) (by omega) v554 y553 y556 _ _ _ (fun k_ => some k_ ≠ (v551 : Value).ownBlock) (fun _ => False) rfl rfl ?aO ?aR (fun _ _ h => h) (fun _ h => h.elim) ?aF ?aB ?aS ?aL ?_
                              (case aR => repeat (first | exact (Kd.C_below HR559.out HB.out) | (with_reducible refine Kd.C_alloc ?_ _) | (with_reducible refine Kd.C_drewN ?_ _) | (with_reducible refine Kd.C_drew ?_)))
                              (case aB => exact (by repeat (first | (with_reducible first | exact HB.out | apply below_alloc | apply pw_below_drewN | apply below_drew1) | exact HB.out)))
                              (case aF => exact (fun k_ hk => Kd.fresh' (Kd.R_lt (by (with_reducible repeat (first | apply Kd.R_alloc | apply Kd.R_drewN | apply Kd.R_drew)); exact HO552.out)) k_ hk))
                              (case aO => exact (by (with_reducible repeat (first | apply Kd.R_alloc | apply Kd.R_drewN | apply Kd.R_drew)); exact Kd.R_mono HO555.out (fun _ hk => hk.2)))
                              (case aS => exact (below_size (by repeat (first | (with_reducible first | exact HB.out | apply below_alloc | apply pw_below_drewN | apply below_drew1) | exact HB.out))))
                              (case aL => have := LMc24.out; omega)
                              intro v561 w76 ho hb hg hat
                              rw [← Ny560.out] at ho
                              have n0_ := Aside0.mk (Kd.R_after (ok := (fun _ => True)) (by (with_reducible repeat (first | apply Kd.R_alloc | apply Kd.R_drewN | apply Kd.R_drew)); exact HO552.out) hg hat)
                              have n1_ := Aside0.mk (hb)
                              have n2_ := Aside0.mk (ho)
                              clear HO552
                              clear HB
                              clear HO555
                              have HO552 := n0_
                              have HB := n1_
                              have HO562 := n2_
                              clear n0_ n1_ n2_
                              clear ho hb hg hat
                              refine hK.out _ _ trivial (fun hHeld => ?_)
                              clear hK K
                              refine norm_ (a' := ?_) ?_ ?_
                              rotate_left
                              · show Act.put _ (some 42) _ = _
                                simp only [Act.put, List.setIfInBounds_toArray, List.set_cons_zero, List.set_cons_succ, i64_w, i32_w]
                                rfl
                              refine one_ (i := 9) (N := some 47) #[true, true, true, true, true, true, true, true, true, true, false] rfl rfl (one_of HT_.out (by kernel_rfl)) (by decide) (fun K hK => ?_)
                              refine Kd.R_append_rows_step k32 (w0 := w) w.heap.size (by rfl) (.tmp 42) (.tmp 46) 23 32 (.agg #[(.int .i64 0), (.int .i64 0)]) 16 rfl Try.underlying23 info32 rfl (by decide) (by omega) v561 y560 y563 _ _ _ (fun k_ => some k_ ≠ (v551 : Value).ownBlock) (fun _ => False) rfl rfl ?aO ?aR (fun _ _ h => h) (fun _ h => h.elim) ?aF ?aB ?aS ?aL ?_
                              (case aR => repeat (first | exact (Kd.C_below HR566.out HB.out) | (with_reducible refine Kd.C_alloc ?_ _) | (with_reducible refine Kd.C_drewN ?_ _) | (with_reducible refine Kd.C_drew ?_)))
                              (case aB => exact (by repeat (first | (with_reducible first | exact HB.out | apply below_alloc | apply pw_below_drewN | apply below_drew1) | exact HB.out)))
                              (case aF => exact (fun k_ hk => Kd.fresh' (Kd.R_lt (by (with_reducible repeat (first | apply Kd.R_alloc | apply Kd.R_drewN | apply Kd.R_drew)); exact HO552.out)) k_ hk))
                              (case aO => exact (by (with_reducible repeat (first | apply Kd.R_alloc | apply Kd.R_drewN | apply Kd.R_drew)); exact HO562.out))
                              (case aS => exact (below_size (by repeat (first | (with_reducible first | exact HB.out | apply below_alloc | apply pw_below_drewN | apply below_drew1) | exact HB.out))))
                              (case aL => have := LMc28.out; omega)
                              intro v568 w77 ho hb hg hat
                              rw [← Ny567.out] at ho
                              have n0_ := Aside0.mk (Kd.R_after (ok := (fun _ => True)) (by (with_reducible repeat (first | apply Kd.R_alloc | apply Kd.R_drewN | apply Kd.R_drew)); exact HO552.out) hg hat)
                              have n1_ := Aside0.mk (hb)
                              have n2_ := Aside0.mk (ho)
                              clear HO552
                              clear HB
                              clear HO562
                              have HO552 := n0_
                              have HB := n1_
                              have HO569 := n2_
                              clear n0_ n1_ n2_
                              clear ho hb hg hat
                              refine hK.out _ _ trivial (fun hHeld => ?_)
                              clear hK K
                              refine norm_ (a' := ?_) ?_ ?_
                              rotate_left
                              · show Act.put _ (some 47) _ = _
                                simp only [Act.put, List.setIfInBounds_toArray, List.set_cons_zero, List.set_cons_succ, i64_w, i32_w]
                                rfl
                              refine pure_ (i := 10) (N := some 10) (v := ?_) (a' := ?_) #[true, true, true, true, true, true, true, true, true, true, true] rfl rfl (any_of HT_.out (by kernel_rfl)) (fun _ _ _ h => h) (Or.inl ⟨by rfl, ?_⟩) ?_ ?_
                              rotate_left
                              · intro w'
                                go_simp
                                with_reducible rfl
                              rotate_left
                              · simp only [Act.put, List.setIfInBounds_toArray, List.set_cons_zero, List.set_cons_succ, i64_w, i32_w]
                                rfl
                              refine done_ (done_of HT_.out (by kernel_rfl)) ?_
                              obtain ⟨Ao78, co78, eo78⟩ := Kd.R_slice HO552.out
                              subst eo78
                              try go_wp2_with (first | ((with_reducible refine gate_callee (f := 22) rfl ?_); refine goesL_ (some 49) rfl rfl Try.func22 (by kernel_rfl) rfl #[.slice Ao78 y550.length co78] rfl (by (try simp only [List.map_toArray, List.map_cons, List.map_nil]); first | done | rfl | (simp only [List.length_drop, List.length_take]; rfl)) ?_; (with_reducible refine (spec_ParcelValid.calls kj3 _ _ y550 false _ ?side1 ?side2 A29.out).mono ?_); (case side1 => repeat (first | exact (Kd.R_reads' HO552.out).2.2 | (with_reducible refine Kd.C_alloc ?_ _) | (with_reducible refine Kd.C_drewN ?_ _) | (with_reducible refine Kd.C_drew ?_))); (case side2 => exact (Kd.R_reads' HO552.out).2.1); rintro e w79 ⟨rfl, hb⟩; refine ⟨_, rfl, ?_⟩; have n0_ := Aside0.mk (Kd.R_below (by (with_reducible repeat (first | apply Kd.R_alloc | apply Kd.R_drewN | apply Kd.R_drew)); exact HO552.out) hb); have n1_ := Aside0.mk (Kd.R_below (by (with_reducible repeat (first | apply Kd.R_alloc | apply Kd.R_drewN | apply Kd.R_drew)); exact HO569.out) hb); have n2_ := Aside0.mk (below_step (by repeat (first | (with_reducible first | exact HB.out | apply below_alloc | apply pw_below_drewN | apply below_drew1) | exact HB.out)) hb); clear HO552; clear HO569; clear HB; have HO552 := n0_; have HO569 := n1_; have HB := n2_; clear n0_ n1_ n2_; (try clear hb); (try clear hb2); (try clear hk); (try clear hi)) | ((with_reducible refine gate_dst (N := 56) rfl ?_); (try (refine gate_guard (by rfl) ?_; dsimp only)); refine Kd.R_lit k32 _ 32 ?hg (N := 56) ?hd (xs := ([] : List (S32))) (inner := []) (ok := fun _ => True) (okp := fun _ => True) ?hr ?hp (fun _ hk => hk) trivial (Below.refl _ _) (Nat.le_refl _) (by simp) ?_; (case hd => rfl); (case hg => rfl); (case hr => first | (go_simp; done) | (go_simp; rfl)); (case hp => exact (Reps.none _ _)); intro v579 w80 ho81 hb hg_ hnew_; clear hg_ hnew_; (first | rw [← Ny578.out] at ho81 | (simp only [Int.reduceToNat] at ho81; rw [← Ny578.out] at ho81)); have n0_ := Aside0.mk (Kd.R_elder' (by (with_reducible repeat (first | apply Kd.R_alloc | apply Kd.R_drewN | apply Kd.R_drew)); exact HO552.out) (Kd.R_base ho81) hb); have n1_ := Aside0.mk (Kd.R_elder' (by (with_reducible repeat (first | apply Kd.R_alloc | apply Kd.R_drewN | apply Kd.R_drew)); exact HO569.out) (Kd.R_base ho81) hb); have n2_ := Aside0.mk (Kd.R_lower (Kd.R_new' (Kd.R_new' ho81 (Kd.R_lt (by (with_reducible repeat (first | apply Kd.R_alloc | apply Kd.R_drewN | apply Kd.R_drew)); exact HO552.out))) (Kd.R_lt (by (with_reducible repeat (first | apply Kd.R_alloc | apply Kd.R_drewN | apply Kd.R_drew)); exact HO569.out))) (below_size (by repeat (first | (with_reducible first | exact HB.out | apply below_alloc | apply pw_below_drewN | apply below_drew1) | exact HB.out)))); have n3_ := Aside0.mk (below_step (by repeat (first | (with_reducible first | exact HB.out | apply below_alloc | apply pw_below_drewN | apply below_drew1) | exact HB.out)) hb); clear HO552; clear HO569; clear HB; have HO552 := n0_; have HO569 := n1_; have HO580 := n2_; have HB := n3_; clear n0_ n1_ n2_ n3_; clear hb ho81) | ((with_reducible refine gate_dst (N := 57) rfl ?_); (try (refine gate_guard (by rfl) ?_; dsimp only)); refine Kd.R_lit k32 _ 32 ?hg (N := 57) ?hd (xs := ([] : List (S32))) (inner := []) (ok := fun _ => True) (okp := fun _ => True) ?hr ?hp (fun _ hk => hk) trivial (Below.refl _ _) (Nat.le_refl _) (by simp) ?_; (case hd => rfl); (case hg => rfl); (case hr => first | (go_simp; done) | (go_simp; rfl)); (case hp => exact (Reps.none _ _)); intro v582 w82 ho83 hb hg_ hnew_; clear hg_ hnew_; (first | rw [← Ny581.out] at ho83 | (simp only [Int.reduceToNat] at ho83; rw [← Ny581.out] at ho83)); have n0_ := Aside0.mk (Kd.R_elder' (by (with_reducible repeat (first | apply Kd.R_alloc | apply Kd.R_drewN | apply Kd.R_drew)); exact HO552.out) (Kd.R_base ho83) hb); have n1_ := Aside0.mk (Kd.R_elder' (by (with_reducible repeat (first | apply Kd.R_alloc | apply Kd.R_drewN | apply Kd.R_drew)); exact HO569.out) (Kd.R_base ho83) hb); have n2_ := Aside0.mk (Kd.R_elder' (by (with_reducible repeat (first | apply Kd.R_alloc | apply Kd.R_drewN | apply Kd.R_drew)); exact HO580.out) (Kd.R_base ho83) hb); have n3_ := Aside0.mk (Kd.R_lower (Kd.R_new' (Kd.R_new' (Kd.R_new' ho83 (Kd.R_lt (by (with_reducible repeat (first | apply Kd.R_alloc | apply Kd.R_drewN | apply Kd.R_drew)); exact HO552.out))) (Kd.R_lt (by (with_reducible repeat (first | apply Kd.R_alloc | apply Kd.R_drewN | apply Kd.R_drew)); exact HO569.out))) (Kd.R_lt (by (with_reducible repeat (first | apply Kd.R_alloc | apply Kd.R_drewN | apply Kd.R_drew)); exact HO580.out))) (below_size (by repeat (first | (with_reducible first | exact HB.out | apply below_alloc | apply pw_below_drewN | apply below_drew1) | exact HB.out)))); have n4_ := Aside0.mk (below_step (by repeat (first | (with_reducible first | exact HB.out | apply below_alloc | apply pw_below_drewN | apply below_drew1) | exact HB.out)) hb); clear HO552; clear HO569; clear HO580; clear HB; have HO552 := n0_; have HO569 := n1_; have HO580 := n2_; have HO583 := n3_; have HB := n4_; clear n0_ n1_ n2_ n3_ n4_; clear hb ho83))
                              go_ret3
                              exact ⟨_, _, by first | rfl | (simp [errW_none, errW_some] <;> rfl) | (simp only [← hji25]; first | rfl | (simp [errW_none, errW_some] <;> rfl)) | (simp [*, errW_none, errW_some] <;> rfl), by (with_reducible repeat (first | apply Kd.R_alloc | apply Kd.R_drewN | apply Kd.R_drew)); exact Kd.R_mono HO580.out (fun _ hk => hk.2), by (with_reducible repeat (first | apply Kd.R_alloc | apply Kd.R_drewN | apply Kd.R_drew)); exact Kd.R_mono HO583.out (fun _ hk => hk.2), by repeat (first | (with_reducible first | exact HB.out | apply below_alloc | apply pw_below_drewN | apply below_drew1) | exact HB.out)⟩
                          · rw [if_neg c28] at H
                            exact absurd H (by simp)
                        · rw [if_neg c27] at H
                          exact absurd H (by simp)
                      · rw [if_neg c26] at H
                        exact absurd H (by simp)
                    · rw [if_neg c24] at H
                      exact absurd H (by simp)
                  · rw [if_neg c23] at H
                    exact absurd H (by simp)
                · rw [if_neg c22] at H
                  exact absurd H (by simp)
              · rw [if_neg c21] at H
                exact absurd H (by simp)
            · rw [if_neg c20] at H
              exact absurd H (by simp)
          · rw [if_neg c19] at H
            exact absurd H (by simp)
        · rw [if_neg c18] at H
          exact absurd H (by simp)

end Go.Proofs.Ytgdhgncdpmalcaa.Q
namespace Go.Proofs.Ytgdhgncdpmalcaa.Q
open Go.RowKit Go.Proofs.YtgdhgncdpmalcaaW.PrintWords Go.Proofs.YtgdhgncdpmalcaaW.PrintLast Go.Proofs.YtgdhgncdpmalcaaW.PrintMore
attribute [local go_sem] max2_int min2_int max_two min_two max_three min_three max_four min_four   -- for this text's walks alone
set_option linter.unusedVariables false
set_option linter.unusedSimpArgs false

/-! ### spec_l92Split: function 65 -/
def spec_l92Split.j0 : Nat → List (S32) → Int → Bool → List Int → Int → Option ((List (S32)) × Int × Int × Int)
  | 0, _, _, _, _, _ => none
  | k + 1, x5, x6, x18, x1000, x1001 => if x18 = true then ((spec_l6Rd_pick.f k x1000 x1001 3).bind fun bt590 => ((spec_l6Rd_pick.f k x1000 bt590.2 6).bind fun bt592 => (some (x5, bt590.1, bt592.1, bt592.2)))) else ((spec_l6Rd_pick.f k x1000 x1001 (wrap64 (x6 - 2))).bind fun bt594 => ((spec_l6Rd_pick.f k x1000 bt594.2 (wrap64 ((wrap64 (x6 - 2)) - bt594.1))).bind fun bt596 => (some (x5, bt594.1, mn (wrap64 (x6 - 1)) (wrap64 ((wrap64 (bt594.1 + 2)) + bt596.1)), bt596.2))))
def spec_l92Split.f (k : Nat) (s0_0 : List Int) (s0_1 : Int) : Option ((List (S32)) × Int × Int × Int) := (spec_l92Poly.f k s0_0 s0_1).bind fun bt584 => (if (bt584.1.length : Int) < 4 then (spec_l92Split.j0 k bt584.1 (bt584.1.length : Int) true s0_0 bt584.2) else ((spec_l6Rd_pick.f k s0_0 bt584.2 16).bind fun bt588 => (spec_l92Split.j0 k bt584.1 (bt584.1.length : Int) (bt588.1 == 0) s0_0 bt588.2)))
set_option maxHeartbeats 8000000 in
set_option maxRecDepth 100000 in
theorem spec_l92Split.calls (k : Nat) (g : Nat) (s0_0 : List Int) (s0_1 : Int) (r1 : List (S32)) (r2 : Int) (r3 : Int) (r4 : Int) (w0 w : World) (hI : IsS81 w0 w g s0_0 s0_1) (hB : Below w0.heap.size w0 w) (h : spec_l92Split.f k s0_0 s0_1 = some (r1, r2, r3, r4)) :
    Calls Try.prog 65 #[.pointer (some ⟨g, 0, none⟩)] w fun e w' => ∃ v0_ : Value, e = .returned (.tuple #[v0_, .int .i64 r2, .int .i64 r3]) ∧ Kd.Q k32 32 w' w.heap.size (fun _ => True) v0_ r1 ∧ IsS81 w0 w' g s0_0 r4 ∧ Below w0.heap.size w0 w' ∧ KeepBut w w' g none := by
  have HI0 := Aside0.mk hI
  have HK := Aside0.mk (KeepBut.refl w g none)
  have HL := Aside0.mk hB.size
  clear hI
  have HW0 := Aside0.mk hB.size
  have HB := Aside0.mk hB
  clear hB
  have H : ((spec_l92Poly.f k s0_0 s0_1).bind fun bt584 => (if (bt584.1.length : Int) < 4 then (spec_l92Split.j0 k bt584.1 (bt584.1.length : Int) true s0_0 bt584.2) else ((spec_l6Rd_pick.f k s0_0 bt584.2 16).bind fun bt588 => (spec_l92Split.j0 k bt584.1 (bt584.1.length : Int) (bt588.1 == 0) s0_0 bt588.2)))) = some (r1, r2, r3, r4) := h
  clear h
  replace H := Option.bind_eq_some_iff.mp H
  obtain ⟨⟨t584, t587⟩, A20, H⟩ := H
  replace H : (if (t584.length : Int) < 4 then (spec_l92Split.j0 k t584 (t584.length : Int) true s0_0 t587) else ((spec_l6Rd_pick.f k s0_0 t587 16).bind fun bt588 => (spec_l92Split.j0 k t584 (t584.length : Int) (bt588.1 == 0) s0_0 bt588.2))) = some (r1, r2, r3, r4) := H
  have A2 := Aside0.mk A20
  clear A20
  have HC3 := Aside0.mk H
  clear H
  go_enter Try.func65, Try.ntmps65
  go_upto_region 3 with (first | ((with_reducible refine gate_callee (f := 41) rfl ?_); refine goesL_ (some 9) rfl rfl Try.func41 (by kernel_rfl) rfl #[.pointer (some ⟨g, 0, none⟩)] rfl (by (try simp only [List.map_toArray, List.map_cons, List.map_nil]); first | done | rfl | (simp only [List.length_drop, List.length_take]; rfl)) ?_; (with_reducible refine (spec_l92Poly.calls k g s0_0 s0_1 t584 t587 w0 _ ?side1 ?side2 A2.out).mono ?_); (case side1 => repeat (first | (with_reducible first | exact HI0.out | apply IsS81.alloc | apply IsS81.drewN | apply IsS81.drew | apply IsS81.set_1) | exact HI0.out)); (case side2 => repeat (first | (with_reducible first | exact HB.out | apply below_alloc | apply pw_below_drewN | apply below_drew1 | refine below_set ?_ (IsS81.ge HI0.out)) | exact HB.out)); rintro e w4 ⟨v585, rfl, ho0, hi, hb, hk⟩; refine ⟨_, rfl, ?_⟩; have n0_ := Aside0.mk (Kd.Q_lower ho0 (keep_size (w := w) (g := g) (row := none) (by repeat (first | (with_reducible first | exact HK.out | apply KeepBut.set_ | apply keep_drewN | apply keep_drew | apply keep_alloc) | exact HK.out)))); have n1_ := Aside0.mk (KeepBut.trans (by repeat (first | (with_reducible first | exact HK.out | apply KeepBut.set_ | apply keep_drewN | apply keep_drew | apply keep_alloc) | exact HK.out)) hk (.inl rfl)); have n2_ := Aside0.mk (hb); have n3_ := Aside0.mk (hi); clear HK; clear HB; clear HI0; have HO586 := n0_; have HK := n1_; have HB := n2_; have HI0 := n3_; clear n0_ n1_ n2_ n3_; (try clear hb); (try clear hb2); (try clear hk); (try clear hi); (try clear ho0); obtain ⟨Ao5, co5, eo5, _⟩ := Kd.Q_slice HO586.out; subst eo5))
  (try simp only [Act.put, List.setIfInBounds_toArray, List.set_cons_zero, List.set_cons_succ])
  go_cut [18] (fun v18 wc => ∃ (kq : Nat) (x18_2 : Bool) (x1001_2 : Int), v18 = .bool x18_2 ∧ Aside0 (spec_l92Split.j0 kq t584 (t584.length : Int) x18_2 s0_0 x1001_2 = some (r1, r2, r3, r4)) ∧ Aside0 (kq ≤ k) ∧ Aside0 (Kd.Q k32 32 wc w.heap.size (fun _ => True) (.slice Ao5 t584.length co5) t584) ∧ Aside0 (IsS81 w0 wc g s0_0 x1001_2) ∧ Aside0 (KeepBut w wc g none) ∧ Aside0 (Below w0.heap.size w0 wc))
  case first =>
    have H := HC3.out
    clear HC3
    by_cases c6 : (t584.length : Int) < 4
    · rw [if_pos c6] at H
      have c6b0 : decide ((t584.length : Int) < 4) = true := decide_eq_true c6
      have c6b1 : decide (t584.length < 4) = true := decide_eq_true (by omega)
      clear c6
      (first | rw [c6b0] | (simp only [i64_w, i32_w]; rw [c6b0]) | skip)
      have H' := Aside0.mk H
      clear H
      go_wp2
      go_meet
      case rel => exact ⟨_, (true), (t587), (by first | rfl | (simp; done) | (simp [*]; done)), H', ⟨by first | omega | exact Nat.le_refl _⟩, ⟨by (with_reducible repeat (first | apply Kd.Q_alloc | apply Kd.Q_drewN | apply Kd.Q_drew)); exact HO586.out⟩, ⟨by repeat (first | (with_reducible first | exact HI0.out | apply IsS81.alloc | apply IsS81.drewN | apply IsS81.drew | apply IsS81.set_1) | exact HI0.out)⟩, ⟨by repeat (first | (with_reducible first | exact HK.out | apply KeepBut.set_ | apply keep_drewN | apply keep_drew | apply keep_alloc) | exact HK.out)⟩, ⟨by repeat (first | (with_reducible first | exact HB.out | apply below_alloc | apply pw_below_drewN | apply below_drew1 | refine below_set ?_ (IsS81.ge HI0.out)) | exact HB.out)⟩⟩
    · rw [if_neg c6] at H
      have c6b0 : decide ((t584.length : Int) < 4) = false := decide_eq_false c6
      have c6b1 : decide (t584.length < 4) = false := decide_eq_false (by omega)
      clear c6
      (first | rw [c6b0] | (simp only [i64_w, i32_w]; rw [c6b0]) | skip)
      replace H := Option.bind_eq_some_iff.mp H
      obtain ⟨⟨t588, t589⟩, A70, H⟩ := H
      replace H : (spec_l92Split.j0 k t584 (t584.length : Int) (t588 == 0) s0_0 t589) = some (r1, r2, r3, r4) := H
      have A7 := Aside0.mk A70
      clear A70
      have H' := Aside0.mk H
      clear H
      go_wp2_with (first | (go_at_call 48; (with_reducible refine (spec_l6Rd_pick.calls k g s0_0 t587 16 t588 t589 w0 _ ?side1 ?side2 A7.out).mono ?_); (case side1 => repeat (first | (with_reducible first | exact HI0.out | apply IsS81.alloc | apply IsS81.drewN | apply IsS81.drew | apply IsS81.set_1) | exact HI0.out)); (case side2 => repeat (first | (with_reducible first | exact HB.out | apply below_alloc | apply pw_below_drewN | apply below_drew1 | refine below_set ?_ (IsS81.ge HI0.out)) | exact HB.out)); rintro e w8 ⟨rfl, hi, hb, hk⟩; have n0_ := Aside0.mk (Kd.Q_mono (Kd.Q_keep (IsS81.apartQ (show IsS81 w0 _ g s0_0 t587 from by repeat (first | (with_reducible first | exact HI0.out | apply IsS81.alloc | apply IsS81.drewN | apply IsS81.drew | apply IsS81.set_1) | exact HI0.out)) (by (with_reducible repeat (first | apply Kd.Q_alloc | apply Kd.Q_drewN | apply Kd.Q_drew)); exact HO586.out) (by decide)) hk (fun _ h => h.2)) (fun _ h => h.1)); have n1_ := Aside0.mk (KeepBut.trans (by repeat (first | (with_reducible first | exact HK.out | apply KeepBut.set_ | apply keep_drewN | apply keep_drew | apply keep_alloc) | exact HK.out)) hk (.inl rfl)); have n2_ := Aside0.mk (hb); have n3_ := Aside0.mk (hi); clear HO586; clear HK; clear HB; clear HI0; have HO586 := n0_; have HK := n1_; have HB := n2_; have HI0 := n3_; clear n0_ n1_ n2_ n3_; (try clear hb); (try clear hb2); (try clear hk); (try clear hi)))
      go_meet
      case rel => exact ⟨_, ((t588 == 0)), (t589), (by first | rfl | (simp; done) | (simp [*]; done)), H', ⟨by first | omega | exact Nat.le_refl _⟩, ⟨by (with_reducible repeat (first | apply Kd.Q_alloc | apply Kd.Q_drewN | apply Kd.Q_drew)); exact HO586.out⟩, ⟨by repeat (first | (with_reducible first | exact HI0.out | apply IsS81.alloc | apply IsS81.drewN | apply IsS81.drew | apply IsS81.set_1) | exact HI0.out)⟩, ⟨by repeat (first | (with_reducible first | exact HK.out | apply KeepBut.set_ | apply keep_drewN | apply keep_drew | apply keep_alloc) | exact HK.out)⟩, ⟨by repeat (first | (with_reducible first | exact HB.out | apply below_alloc | apply pw_below_drewN | apply below_drew1 | refine below_set ?_ (IsS81.ge HI0.out)) | exact HB.out)⟩⟩
  case rest =>
    clear HC3
    try clear p2
    try clear c4
    try clear c6
    try clear c6b0
    try clear c6b1
    obtain ⟨kq, x18_2, x1001_2, rfl, HA, HJ2, HO_5, HI0, HK, HB⟩ := hcut
    cases kq with
    | zero => exact absurd HA.out (by simp [spec_l92Split.j0])
    | succ kj2 =>
      have H := HA.out
      clear HA
      simp only [spec_l92Split.j0] at H
      by_cases c9 : x18_2 = true
      · subst c9
        have H1 : ((spec_l6Rd_pick.f kj2 s0_0 x1001_2 3).bind fun bt590 => ((spec_l6Rd_pick.f kj2 s0_0 bt590.2 6).bind fun bt592 => (some (t584, bt590.1, bt592.1, bt592.2)))) = some (r1, r2, r3, r4) := by rw [if_pos rfl] at H; exact H
        clear H
        have H := H1
        clear H1
        replace H := Option.bind_eq_some_iff.mp H
        obtain ⟨⟨t590, t591⟩, A100, H⟩ := H
        replace H : ((spec_l6Rd_pick.f kj2 s0_0 t591 6).bind fun bt592 => (some (t584, t590, bt592.1, bt592.2))) = some (r1, r2, r3, r4) := H
        have A10 := Aside0.mk A100
        clear A100
        replace H := Option.bind_eq_some_iff.mp H
        obtain ⟨⟨t592, t593⟩, A110, H⟩ := H
        replace H : (some (t584, t590, t592, t593)) = some (r1, r2, r3, r4) := H
        have A11 := Aside0.mk A110
        clear A110
        simp only [Option.some.injEq, Prod.mk.injEq] at H
        obtain ⟨rfl, rfl, rfl, rfl⟩ := H
        go_wp2_with (first | ((with_reducible refine gate_callee (f := 48) rfl ?_); refine goesL_ (some 21) rfl rfl Try.func48 (by kernel_rfl) rfl #[.pointer (some ⟨g, 0, none⟩), .int .i64 3] rfl (by (try simp only [List.map_toArray, List.map_cons, List.map_nil]); first | done | rfl | (simp only [List.length_drop, List.length_take]; rfl)) ?_; (with_reducible refine (spec_l6Rd_pick.calls kj2 g s0_0 x1001_2 3 t590 t591 w0 _ ?side1 ?side2 A10.out).mono ?_); (case side1 => repeat (first | (with_reducible first | exact HI0.out | apply IsS81.alloc | apply IsS81.drewN | apply IsS81.drew | apply IsS81.set_1) | exact HI0.out)); (case side2 => repeat (first | (with_reducible first | exact HB.out | apply below_alloc | apply pw_below_drewN | apply below_drew1 | refine below_set ?_ (IsS81.ge HI0.out)) | exact HB.out)); rintro e w12 ⟨rfl, hi, hb, hk⟩; refine ⟨_, rfl, ?_⟩; have n0_ := Aside0.mk (Kd.Q_mono (Kd.Q_keep (IsS81.apartQ (show IsS81 w0 _ g s0_0 x1001_2 from by repeat (first | (with_reducible first | exact HI0.out | apply IsS81.alloc | apply IsS81.drewN | apply IsS81.drew | apply IsS81.set_1) | exact HI0.out)) (by (with_reducible repeat (first | apply Kd.Q_alloc | apply Kd.Q_drewN | apply Kd.Q_drew)); exact HO_5.out) (by decide)) hk (fun _ h => h.2)) (fun _ h => h.1)); have n1_ := Aside0.mk (KeepBut.trans (by repeat (first | (with_reducible first | exact HK.out | apply KeepBut.set_ | apply keep_drewN | apply keep_drew | apply keep_alloc) | exact HK.out)) hk (.inl rfl)); have n2_ := Aside0.mk (hb); have n3_ := Aside0.mk (hi); clear HO_5; clear HK; clear HB; clear HI0; have HO_5 := n0_; have HK := n1_; have HB := n2_; have HI0 := n3_; clear n0_ n1_ n2_ n3_; (try clear hb); (try clear hb2); (try clear hk); (try clear hi)) | ((with_reducible refine gate_callee (f := 48) rfl ?_); refine goesL_ (some 23) rfl rfl Try.func48 (by kernel_rfl) rfl #[.pointer (some ⟨g, 0, none⟩), .int .i64 6] rfl (by (try simp only [List.map_toArray, List.map_cons, List.map_nil]); first | done | rfl | (simp only [List.length_drop, List.length_take]; rfl)) ?_; (with_reducible refine (spec_l6Rd_pick.calls kj2 g s0_0 t591 6 t592 t593 w0 _ ?side1 ?side2 A11.out).mono ?_); (case side1 => repeat (first | (with_reducible first | exact HI0.out | apply IsS81.alloc | apply IsS81.drewN | apply IsS81.drew | apply IsS81.set_1) | exact HI0.out)); (case side2 => repeat (first | (with_reducible first | exact HB.out | apply below_alloc | apply pw_below_drewN | apply below_drew1 | refine below_set ?_ (IsS81.ge HI0.out)) | exact HB.out)); rintro e w13 ⟨rfl, hi, hb, hk⟩; refine ⟨_, rfl, ?_⟩; have n0_ := Aside0.mk (Kd.Q_mono (Kd.Q_keep (IsS81.apartQ (show IsS81 w0 _ g s0_0 t591 from by repeat (first | (with_reducible first | exact HI0.out | apply IsS81.alloc | apply IsS81.drewN | apply IsS81.drew | apply IsS81.set_1) | exact HI0.out)) (by (with_reducible repeat (first | apply Kd.Q_alloc | apply Kd.Q_drewN | apply Kd.Q_drew)); exact HO_5.out) (by decide)) hk (fun _ h => h.2)) (fun _ h => h.1)); have n1_ := Aside0.mk (KeepBut.trans (by repeat (first | (with_reducible first | exact HK.out | apply KeepBut.set_ | apply keep_drewN | apply keep_drew | apply keep_alloc) | exact HK.out)) hk (.inl rfl)); have n2_ := Aside0.mk (hb); have n3_ := Aside0.mk (hi); clear HO_5; clear HK; clear HB; clear HI0; have HO_5 := n0_; have HK := n1_; have HB := n2_; have HI0 := n3_; clear n0_ n1_ n2_ n3_; (try clear hb); (try clear hb2); (try clear hk); (try clear hi)))
        go_ret3
        exact ⟨_, by first | rfl | (simp [errW_none, errW_some] <;> rfl) | (simp [*, errW_none, errW_some] <;> rfl), by (with_reducible repeat (first | apply Kd.Q_alloc | apply Kd.Q_drewN | apply Kd.Q_drew)); exact HO_5.out, by repeat (first | (with_reducible first | exact HI0.out | apply IsS81.alloc | apply IsS81.drewN | apply IsS81.drew | apply IsS81.set_1) | exact HI0.out), by repeat (first | (with_reducible first | exact HB.out | apply below_alloc | apply pw_below_drewN | apply below_drew1 | refine below_set ?_ (IsS81.ge HI0.out)) | exact HB.out), by repeat (first | (with_reducible first | exact HK.out | apply KeepBut.set_ | apply keep_drewN | apply keep_drew | apply keep_alloc) | exact HK.out)⟩
      · replace c9 := Bool.eq_false_iff.mpr c9
        subst c9
        have H1 : ((spec_l6Rd_pick.f kj2 s0_0 x1001_2 (wrap64 ((t584.length : Int) - 2))).bind fun bt594 => ((spec_l6Rd_pick.f kj2 s0_0 bt594.2 (wrap64 ((wrap64 ((t584.length : Int) - 2)) - bt594.1))).bind fun bt596 => (some (t584, bt594.1, mn (wrap64 ((t584.length : Int) - 1)) (wrap64 ((wrap64 (bt594.1 + 2)) + bt596.1)), bt596.2)))) = some (r1, r2, r3, r4) := by rw [if_neg (show ¬ (false = true) by decide)] at H; exact H
        clear H
        have H := H1
        clear H1
        replace H := Option.bind_eq_some_iff.mp H
        obtain ⟨⟨t594, t595⟩, A140, H⟩ := H
        replace H : ((spec_l6Rd_pick.f kj2 s0_0 t595 (wrap64 ((wrap64 ((t584.length : Int) - 2)) - t594))).bind fun bt596 => (some (t584, t594, mn (wrap64 ((t584.length : Int) - 1)) (wrap64 ((wrap64 (t594 + 2)) + bt596.1)), bt596.2))) = some (r1, r2, r3, r4) := H
        have A14 := Aside0.mk A140
        clear A140
        replace H := Option.bind_eq_some_iff.mp H
        obtain ⟨⟨t596, t597⟩, A150, H⟩ := H
        replace H : (some (t584, t594, mn (wrap64 ((t584.length : Int) - 1)) (wrap64 ((wrap64 (t594 + 2)) + t596)), t597)) = some (r1, r2, r3, r4) := H
        have A15 := Aside0.mk A150
        clear A150
        obtain ⟨ji16, hji16⟩ : ∃ j_ : Int, (mn (wrap64 ((t584.length : Int) - 1)) (wrap64 ((wrap64 (t594 + 2)) + t596))) = j_ := ⟨_, rfl⟩
        replace H : (some (t584, t594, ji16, t597)) = some (r1, r2, r3, r4) := by first | (rw [hji16] at H; exact H) | (simp only [hji16] at H ⊢; exact H)
        (try rw [hji16] at A14)
        (try rw [hji16] at A15)
        have hji16_ : (if (wrap64 ((wrap64 (t594 + 2)) + t596)) < (wrap64 ((t584.length : Int) - 1)) then (wrap64 ((wrap64 (t594 + 2)) + t596)) else (wrap64 ((t584.length : Int) - 1))) = ji16 := hji16
        simp only [Option.some.injEq, Prod.mk.injEq] at H
        obtain ⟨rfl, rfl, rfl, rfl⟩ := H
        go_wp2_with (first | ((with_reducible refine gate_callee (f := 48) rfl ?_); refine goesL_ (some 27) rfl rfl Try.func48 (by kernel_rfl) rfl #[.pointer (some ⟨g, 0, none⟩), .int .i64 (wrap64 ((t584.length : Int) - 2))] rfl (by (try simp only [List.map_toArray, List.map_cons, List.map_nil]); first | done | rfl | (simp only [List.length_drop, List.length_take]; rfl)) ?_; (with_reducible refine (spec_l6Rd_pick.calls kj2 g s0_0 x1001_2 (wrap64 ((t584.length : Int) - 2)) t594 t595 w0 _ ?side1 ?side2 A14.out).mono ?_); (case side1 => repeat (first | (with_reducible first | exact HI0.out | apply IsS81.alloc | apply IsS81.drewN | apply IsS81.drew | apply IsS81.set_1) | exact HI0.out)); (case side2 => repeat (first | (with_reducible first | exact HB.out | apply below_alloc | apply pw_below_drewN | apply below_drew1 | refine below_set ?_ (IsS81.ge HI0.out)) | exact HB.out)); rintro e w17 ⟨rfl, hi, hb, hk⟩; refine ⟨_, rfl, ?_⟩; have n0_ := Aside0.mk (Kd.Q_mono (Kd.Q_keep (IsS81.apartQ (show IsS81 w0 _ g s0_0 x1001_2 from by repeat (first | (with_reducible first | exact HI0.out | apply IsS81.alloc | apply IsS81.drewN | apply IsS81.drew | apply IsS81.set_1) | exact HI0.out)) (by (with_reducible repeat (first | apply Kd.Q_alloc | apply Kd.Q_drewN | apply Kd.Q_drew)); exact HO_5.out) (by decide)) hk (fun _ h => h.2)) (fun _ h => h.1)); have n1_ := Aside0.mk (KeepBut.trans (by repeat (first | (with_reducible first | exact HK.out | apply KeepBut.set_ | apply keep_drewN | apply keep_drew | apply keep_alloc) | exact HK.out)) hk (.inl rfl)); have n2_ := Aside0.mk (hb); have n3_ := Aside0.mk (hi); clear HO_5; clear HK; clear HB; clear HI0; have HO_5 := n0_; have HK := n1_; have HB := n2_; have HI0 := n3_; clear n0_ n1_ n2_ n3_; (try clear hb); (try clear hb2); (try clear hk); (try clear hi)) | ((with_reducible refine gate_callee (f := 48) rfl ?_); refine goesL_ (some 39) rfl rfl Try.func48 (by kernel_rfl) rfl #[.pointer (some ⟨g, 0, none⟩), .int .i64 (wrap64 ((wrap64 ((t584.length : Int) - 2)) - t594))] rfl (by (try simp only [List.map_toArray, List.map_cons, List.map_nil]); first | done | rfl | (simp only [List.length_drop, List.length_take]; rfl)) ?_; (with_reducible refine (spec_l6Rd_pick.calls kj2 g s0_0 t595 (wrap64 ((wrap64 ((t584.length : Int) - 2)) - t594)) t596 t597 w0 _ ?side1 ?side2 A15.out).mono ?_); (case side1 => repeat (first | (with_reducible first | exact HI0.out | apply IsS81.alloc | apply IsS81.drewN | apply IsS81.drew | apply IsS81.set_1) | exact HI0.out)); (case side2 => repeat (first | (with_reducible first | exact HB.out | apply below_alloc | apply pw_below_drewN | apply below_drew1 | refine below_set ?_ (IsS81.ge HI0.out)) | exact HB.out)); rintro e w18 ⟨rfl, hi, hb, hk⟩; refine ⟨_, rfl, ?_⟩; have n0_ := Aside0.mk (Kd.Q_mono (Kd.Q_keep (IsS81.apartQ (show IsS81 w0 _ g s0_0 t595 from by repeat (first | (with_reducible first | exact HI0.out | apply IsS81.alloc | apply IsS81.drewN | apply IsS81.drew | apply IsS81.set_1) | exact HI0.out)) (by (with_reducible repeat (first | apply Kd.Q_alloc | apply Kd.Q_drewN | apply Kd.Q_drew)); exact HO_5.out) (by decide)) hk (fun _ h => h.2)) (fun _ h => h.1)); have n1_ := Aside0.mk (KeepBut.trans (by repeat (first | (with_reducible first | exact HK.out | apply KeepBut.set_ | apply keep_drewN | apply keep_drew | apply keep_alloc) | exact HK.out)) hk (.inl rfl)); have n2_ := Aside0.mk (hb); have n3_ := Aside0.mk (hi); clear HO_5; clear HK; clear HB; clear HI0; have HO_5 := n0_; have HK := n1_; have HB := n2_; have HI0 := n3_; clear n0_ n1_ n2_ n3_; (try clear hb); (try clear hb2); (try clear hk); (try clear hi)))
        go_ret3
        exact ⟨_, by first | rfl | (simp [errW_none, errW_some] <;> rfl) | (simp only [← hji16]; first | rfl | (simp [errW_none, errW_some] <;> rfl)) | (simp [*, errW_none, errW_some] <;> rfl), by (with_reducible repeat (first | apply Kd.Q_alloc | apply Kd.Q_drewN | apply Kd.Q_drew)); exact HO_5.out, by repeat (first | (with_reducible first | exact HI0.out | apply IsS81.alloc | apply IsS81.drewN | apply IsS81.drew | apply IsS81.set_1) | exact HI0.out), by repeat (first | (with_reducible first | exact HB.out | apply below_alloc | apply pw_below_drewN | apply below_drew1 | refine below_set ?_ (IsS81.ge HI0.out)) | exact HB.out), by repeat (first | (with_reducible first | exact HK.out | apply KeepBut.set_ | apply keep_drewN | apply keep_drew | apply keep_alloc) | exact HK.out)⟩

end Go.Proofs.Ytgdhgncdpmalcaa.Q
namespace Go.Proofs.Ytgdhgncdpmalcaa.Q
open Go.RowKit Go.Proofs.YtgdhgncdpmalcaaW.PrintWords Go.Proofs.YtgdhgncdpmalcaaW.PrintLast Go.Proofs.YtgdhgncdpmalcaaW.PrintMore
attribute [local go_sem] max2_int min2_int max_two min_two max_three min_three max_four min_four   -- for this text's walks alone
set_option linter.unusedVariables false
set_option linter.unusedSimpArgs false

/-! ### spec_DrawParcelCommon: function 30 -/
def spec_DrawParcelCommon.f (k : Nat) (l0 : List Int) : Option ((List (S32)) × (List (S32))) := (spec_l6Open.f l0).bind fun bt598 => ((spec_l92Split.f k bt598.1 bt598.2).bind fun bt601 => ((spec_ParcelSplit.f k bt601.1 bt601.2.1 bt601.2.2.1).bind fun bt607 => (if bt607.2.2 = true then ((spec_l6Rd_pick.f k bt598.1 bt601.2.2.2 4).bind fun bt614 => (if bt614.1 > 0 then (some (bt607.1, bt607.2.1)) else ((spec_l92Poly.f k bt598.1 bt614.2).bind fun bt616 => (some (bt601.1, bt616.1))))) else ((spec_l92Poly.f k bt598.1 bt601.2.2.2).bind fun bt620 => (some (bt601.1, bt620.1))))))
set_option maxHeartbeats 8000000 in
set_option maxRecDepth 100000 in
theorem spec_DrawParcelCommon.calls (k : Nat) (A0 : Option Addr) (c0 : Nat) (l0 : List Int) (r1 : List (S32)) (r2 : List (S32)) (w : World) (hr0 : Kd.C (Kd.int .u8) w A0 l0.length l0) (hc0 : l0.length ≤ c0) (h : spec_DrawParcelCommon.f k l0 = some (r1, r2)) :
    Calls Try.prog 30 #[.slice A0 l0.length c0] w fun e w' => ∃ v0_ v1_ : Value, e = .returned (.tuple #[v0_, v1_]) ∧ Kd.Q k32 32 w' w.heap.size (fun k_ => some k_ ≠ (v1_ : Value).ownBlock) v0_ r1 ∧ Kd.Q k32 32 w' w.heap.size (fun k_ => some k_ ≠ (v0_ : Value).ownBlock) v1_ r2 ∧ Below w.heap.size w w' := by
  have HR0 := Aside0.mk hr0
  have HC0 := Aside0.mk hc0
  clear hr0 hc0
  have HB := Aside0.mk (Below.refl w.heap.size w)
  have H : ((spec_l6Open.f l0).bind fun bt598 => ((spec_l92Split.f k bt598.1 bt598.2).bind fun bt601 => ((spec_ParcelSplit.f k bt601.1 bt601.2.1 bt601.2.2.1).bind fun bt607 => (if bt607.2.2 = true then ((spec_l6Rd_pick.f k bt598.1 bt601.2.2.2 4).bind fun bt614 => (if bt614.1 > 0 then (some (bt607.1, bt607.2.1)) else ((spec_l92Poly.f k bt598.1 bt614.2).bind fun bt616 => (some (bt601.1, bt616.1))))) else ((spec_l92Poly.f k bt598.1 bt601.2.2.2).bind fun bt620 => (some (bt601.1, bt620.1))))))) = some (r1, r2) := h
  clear h
  replace H := Option.bind_eq_some_iff.mp H
  obtain ⟨⟨t598, t599⟩, A20, H⟩ := H
  replace H : ((spec_l92Split.f k t598 t599).bind fun bt601 => ((spec_ParcelSplit.f k bt601.1 bt601.2.1 bt601.2.2.1).bind fun bt607 => (if bt607.2.2 = true then ((spec_l6Rd_pick.f k t598 bt601.2.2.2 4).bind fun bt614 => (if bt614.1 > 0 then (some (bt607.1, bt607.2.1)) else ((spec_l92Poly.f k t598 bt614.2).bind fun bt616 => (some (bt601.1, bt616.1))))) else ((spec_l92Poly.f k t598 bt601.2.2.2).bind fun bt620 => (some (bt601.1, bt620.1)))))) = some (r1, r2) := H
  have A2 := Aside0.mk A20
  clear A20
  replace H := Option.bind_eq_some_iff.mp H
  obtain ⟨⟨t601, t604, t605, t606⟩, A30, H⟩ := H
  replace H : ((spec_ParcelSplit.f k t601 t604 t605).bind fun bt607 => (if bt607.2.2 = true then ((spec_l6Rd_pick.f k t598 t606 4).bind fun bt614 => (if bt614.1 > 0 then (some (bt607.1, bt607.2.1)) else ((spec_l92Poly.f k t598 bt614.2).bind fun bt616 => (some (t601, bt616.1))))) else ((spec_l92Poly.f k t598 t606).bind fun bt620 => (some (t601, bt620.1))))) = some (r1, r2) := H
  have A3 := Aside0.mk A30
  clear A30
  replace H := Option.bind_eq_some_iff.mp H
  obtain ⟨⟨t607, t608, t609⟩, A40, H⟩ := H
  replace H : (if t609 = true then ((spec_l6Rd_pick.f k t598 t606 4).bind fun bt614 => (if bt614.1 > 0 then (some (t607, t608)) else ((spec_l92Poly.f k t598 bt614.2).bind fun bt616 => (some (t601, bt616.1))))) else ((spec_l92Poly.f k t598 t606).bind fun bt620 => (some (t601, bt620.1)))) = some (r1, r2) := H
  have A4 := Aside0.mk A40
  clear A40
  by_cases c5 : t609 = true
  · subst c5
    have H1 : ((spec_l6Rd_pick.f k t598 t606 4).bind fun bt614 => (if bt614.1 > 0 then (some (t607, t608)) else ((spec_l92Poly.f k t598 bt614.2).bind fun bt616 => (some (t601, bt616.1))))) = some (r1, r2) := by rw [if_pos rfl] at H; exact H
    clear H
    have H := H1
    clear H1
    replace H := Option.bind_eq_some_iff.mp H
    obtain ⟨⟨t614, t615⟩, A60, H⟩ := H
    replace H : (if t614 > 0 then (some (t607, t608)) else ((spec_l92Poly.f k t598 t615).bind fun bt616 => (some (t601, bt616.1)))) = some (r1, r2) := H
    have A6 := Aside0.mk A60
    clear A60
    by_cases c7 : t614 > 0
    · rw [if_pos c7] at H
      have c7b0 : decide (0 < t614) = true := decide_eq_true c7
      clear c7
      simp only [Option.some.injEq, Prod.mk.injEq] at H
      obtain ⟨rfl, rfl⟩ := H
      go_enter Try.func30, Try.ntmps30
      go_wp2_with (first | ((with_reducible refine gate_callee (f := 42) rfl ?_); refine goesL_ (some 12) rfl rfl Try.func42 (by kernel_rfl) rfl #[.slice A0 l0.length c0] rfl (by (try simp only [List.map_toArray, List.map_cons, List.map_nil]); first | done | rfl | (simp only [List.length_drop, List.length_take]; rfl)) ?_; (with_reducible refine (spec_l6Open.calls _ _ l0 t598 t599 w _ ?side1 ?side2 ?side3 A2.out).mono ?_); (case side1 => repeat (first | (with_reducible first | exact HB.out | apply below_alloc | apply pw_below_drewN | apply below_drew1) | exact HB.out)); (case side2 => exact HR0.out); (case side3 => exact HC0.out); rintro e w8 ⟨g600, rfl, hi, hb, hb2⟩; refine ⟨_, rfl, ?_⟩; have n0_ := Aside0.mk (hb); have n1_ := Aside0.mk (hi); clear HB; have HB := n0_; have HI600 := n1_; clear n0_ n1_; (try clear hb); (try clear hb2); (try clear hk); (try clear hi)) | ((with_reducible refine gate_callee (f := 65) rfl ?_); refine goesL_ (some 15) rfl rfl Try.func65 (by kernel_rfl) rfl #[.pointer (some ⟨g600, 0, none⟩)] rfl (by (try simp only [List.map_toArray, List.map_cons, List.map_nil]); first | done | rfl | (simp only [List.length_drop, List.length_take]; rfl)) ?_; (with_reducible refine (spec_l92Split.calls k g600 t598 t599 t601 t604 t605 t606 w _ ?side1 ?side2 A3.out).mono ?_); (case side1 => repeat (first | (with_reducible first | exact HI600.out | apply IsS81.alloc | apply IsS81.drewN | apply IsS81.drew | apply IsS81.set_1) | exact HI600.out)); (case side2 => repeat (first | (with_reducible first | exact HB.out | apply below_alloc | apply pw_below_drewN | apply below_drew1 | refine below_set ?_ (IsS81.ge HI600.out)) | exact HB.out)); rintro e w9 ⟨v602, rfl, ho0, hi, hb, hk⟩; refine ⟨_, rfl, ?_⟩; have n0_ := Aside0.mk (Kd.Q_lower ho0 (below_size (by repeat (first | (with_reducible first | exact HB.out | apply below_alloc | apply pw_below_drewN | apply below_drew1 | refine below_set ?_ (IsS81.ge HI600.out)) | exact HB.out)))); have n1_ := Aside0.mk (hb); have n2_ := Aside0.mk (hi); clear HB; clear HI600; have HO603 := n0_; have HB := n1_; have HI600 := n2_; clear n0_ n1_ n2_; (try clear hb); (try clear hb2); (try clear hk); (try clear hi); (try clear ho0); obtain ⟨Ao10, co10, eo10, _⟩ := Kd.Q_slice HO603.out; subst eo10) | ((with_reducible refine gate_callee (f := 35) rfl ?_); refine goesL_ (some 23) rfl rfl Try.func35 (by kernel_rfl) rfl #[.slice Ao10 t601.length co10, .int .i64 t604, .int .i64 t605] rfl (by (try simp only [List.map_toArray, List.map_cons, List.map_nil]); first | done | rfl | (simp only [List.length_drop, List.length_take]; rfl)) ?_; (with_reducible refine (spec_ParcelSplit.calls k _ _ t601 t604 t605 t607 t608 true _ ?side1 ?side2 A4.out).mono ?_); (case side1 => repeat (first | exact (Kd.Q_reads' HO603.out).2.2 | (with_reducible refine Kd.C_alloc ?_ _) | (with_reducible refine Kd.C_drewN ?_ _) | (with_reducible refine Kd.C_drew ?_))); (case side2 => exact (Kd.Q_reads' HO603.out).2.1); rintro e w11 ⟨v610, v612, rfl, ho0, ho1, hb⟩; refine ⟨_, rfl, ?_⟩; have n0_ := Aside0.mk (Kd.Q_mono (Kd.Q_told (Kd.Q_told (Kd.Q_old (by (with_reducible repeat (first | apply Kd.Q_alloc | apply Kd.Q_drewN | apply Kd.Q_drew)); exact HO603.out) hb) (Kd.R_base ho0)) (Kd.R_base ho1)) (fun _ h_ => h_.1)); have n1_ := Aside0.mk (Kd.R_lower (Kd.R_new' ho0 (Kd.Q_lt (by (with_reducible repeat (first | apply Kd.Q_alloc | apply Kd.Q_drewN | apply Kd.Q_drew)); exact HO603.out))) (below_size (by repeat (first | (with_reducible first | exact HB.out | apply below_alloc | apply pw_below_drewN | apply below_drew1 | refine below_set ?_ (IsS81.ge HI600.out)) | exact HB.out)))); have n2_ := Aside0.mk (Kd.R_lower (Kd.R_new' ho1 (Kd.Q_lt (by (with_reducible repeat (first | apply Kd.Q_alloc | apply Kd.Q_drewN | apply Kd.Q_drew)); exact HO603.out))) (below_size (by repeat (first | (with_reducible first | exact HB.out | apply below_alloc | apply pw_below_drewN | apply below_drew1 | refine below_set ?_ (IsS81.ge HI600.out)) | exact HB.out)))); have n3_ := Aside0.mk (IsS81.below (by repeat (first | (with_reducible first | exact HI600.out | apply IsS81.alloc | apply IsS81.drewN | apply IsS81.drew | apply IsS81.set_1) | exact HI600.out)) hb); have n4_ := Aside0.mk (below_step (by repeat (first | (with_reducible first | exact HB.out | apply below_alloc | apply pw_below_drewN | apply below_drew1 | refine below_set ?_ (IsS81.ge HI600.out)) | exact HB.out)) hb); clear HO603; clear HI600; clear HB; have HO603 := n0_; have HO611 := n1_; have HO613 := n2_; have HI600 := n3_; have HB := n4_; clear n0_ n1_ n2_ n3_ n4_; (try clear hb); (try clear hb2); (try clear hk); (try clear hi); (try clear ho0); (try clear ho1)) | (go_at_call 48; (with_reducible refine (spec_l6Rd_pick.calls k g600 t598 t606 4 t614 t615 w _ ?side1 ?side2 A6.out).mono ?_); (case side1 => repeat (first | (with_reducible first | exact HI600.out | apply IsS81.alloc | apply IsS81.drewN | apply IsS81.drew | apply IsS81.set_1) | exact HI600.out)); (case side2 => repeat (first | (with_reducible first | exact HB.out | apply below_alloc | apply pw_below_drewN | apply below_drew1 | refine below_set ?_ (IsS81.ge HI600.out)) | exact HB.out)); rintro e w12 ⟨rfl, hi, hb, hk⟩; have n0_ := Aside0.mk (Kd.Q_mono (Kd.Q_keep (IsS81.apartQ (show IsS81 w _ g600 t598 t606 from by repeat (first | (with_reducible first | exact HI600.out | apply IsS81.alloc | apply IsS81.drewN | apply IsS81.drew | apply IsS81.set_1) | exact HI600.out)) (by (with_reducible repeat (first | apply Kd.Q_alloc | apply Kd.Q_drewN | apply Kd.Q_drew)); exact HO603.out) (by decide)) hk (fun _ h => h.2)) (fun _ h => h.1)); have n1_ := Aside0.mk (Kd.R_mono (Kd.R_keep (IsS81.apart (show IsS81 w _ g600 t598 t606 from by repeat (first | (with_reducible first | exact HI600.out | apply IsS81.alloc | apply IsS81.drewN | apply IsS81.drew | apply IsS81.set_1) | exact HI600.out)) (by (with_reducible repeat (first | apply Kd.R_alloc | apply Kd.R_drewN | apply Kd.R_drew)); exact HO611.out) (by decide)) hk (fun _ h => h.2)) (fun _ h => h.1)); have n2_ := Aside0.mk (Kd.R_mono (Kd.R_keep (IsS81.apart (show IsS81 w _ g600 t598 t606 from by repeat (first | (with_reducible first | exact HI600.out | apply IsS81.alloc | apply IsS81.drewN | apply IsS81.drew | apply IsS81.set_1) | exact HI600.out)) (by (with_reducible repeat (first | apply Kd.R_alloc | apply Kd.R_drewN | apply Kd.R_drew)); exact HO613.out) (by decide)) hk (fun _ h => h.2)) (fun _ h => h.1)); have n3_ := Aside0.mk (hb); have n4_ := Aside0.mk (hi); clear HO603; clear HO611; clear HO613; clear HB; clear HI600; have HO603 := n0_; have HO611 := n1_; have HO613 := n2_; have HB := n3_; have HI600 := n4_; clear n0_ n1_ n2_ n3_ n4_; (try clear hb); (try clear hb2); (try clear hk); (try clear hi)))
      go_ret2
      exact ⟨_, _, by first | rfl | (simp [errW_none, errW_some] <;> rfl) | (simp [*, errW_none, errW_some] <;> rfl), Kd.Q_of_R (by (with_reducible repeat (first | apply Kd.R_alloc | apply Kd.R_drewN | apply Kd.R_drew)); exact Kd.R_mono HO611.out (fun _ hk => hk.1)), Kd.Q_of_R (by (with_reducible repeat (first | apply Kd.R_alloc | apply Kd.R_drewN | apply Kd.R_drew)); exact Kd.R_mono HO613.out (fun _ hk => hk.1)), by repeat (first | (with_reducible first | exact HB.out | apply below_alloc | apply pw_below_drewN | apply below_drew1 | refine below_set ?_ (IsS81.ge HI600.out)) | exact HB.out)⟩
    · rw [if_neg c7] at H
      have c7b0 : decide (0 < t614) = false := decide_eq_false c7
      clear c7
      replace H := Option.bind_eq_some_iff.mp H
      obtain ⟨⟨t616, t619⟩, A130, H⟩ := H
      replace H : (some (t601, t616)) = some (r1, r2) := H
      have A13 := Aside0.mk A130
      clear A130
      simp only [Option.some.injEq, Prod.mk.injEq] at H
      obtain ⟨rfl, rfl⟩ := H
      go_enter Try.func30, Try.ntmps30
      go_wp2_with (first | ((with_reducible refine gate_callee (f := 42) rfl ?_); refine goesL_ (some 12) rfl rfl Try.func42 (by kernel_rfl) rfl #[.slice A0 l0.length c0] rfl (by (try simp only [List.map_toArray, List.map_cons, List.map_nil]); first | done | rfl | (simp only [List.length_drop, List.length_take]; rfl)) ?_; (with_reducible refine (spec_l6Open.calls _ _ l0 t598 t599 w _ ?side1 ?side2 ?side3 A2.out).mono ?_); (case side1 => repeat (first | (with_reducible first | exact HB.out | apply below_alloc | apply pw_below_drewN | apply below_drew1) | exact HB.out)); (case side2 => exact HR0.out); (case side3 => exact HC0.out); rintro e w14 ⟨g600, rfl, hi, hb, hb2⟩; refine ⟨_, rfl, ?_⟩; have n0_ := Aside0.mk (hb); have n1_ := Aside0.mk (hi); clear HB; have HB := n0_; have HI600 := n1_; clear n0_ n1_; (try clear hb); (try clear hb2); (try clear hk); (try clear hi)) | ((with_reducible refine gate_callee (f := 65) rfl ?_); refine goesL_ (some 15) rfl rfl Try.func65 (by kernel_rfl) rfl #[.pointer (some ⟨g600, 0, none⟩)] rfl (by (try simp only [List.map_toArray, List.map_cons, List.map_nil]); first | done | rfl | (simp only [List.length_drop, List.length_take]; rfl)) ?_; (with_reducible refine (spec_l92Split.calls k g600 t598 t599 t601 t604 t605 t606 w _ ?side1 ?side2 A3.out).mono ?_); (case side1 => repeat (first | (with_reducible first | exact HI600.out | apply IsS81.alloc | apply IsS81.drewN | apply IsS81.drew | apply IsS81.set_1) | exact HI600.out)); (case side2 => repeat (first | (with_reducible first | exact HB.out | apply below_alloc | apply pw_below_drewN | apply below_drew1 | refine below_set ?_ (IsS81.ge HI600.out)) | exact HB.out)); rintro e w15 ⟨v602, rfl, ho0, hi, hb, hk⟩; refine ⟨_, rfl, ?_⟩; have n0_ := Aside0.mk (Kd.Q_lower ho0 (below_size (by repeat (first | (with_reducible first | exact HB.out | apply below_alloc | apply pw_below_drewN | apply below_drew1 | refine below_set ?_ (IsS81.ge HI600.out)) | exact HB.out)))); have n1_ := Aside0.mk (hb); have n2_ := Aside0.mk (hi); clear HB; clear HI600; have HO603 := n0_; have HB := n1_; have HI600 := n2_; clear n0_ n1_ n2_; (try clear hb); (try clear hb2); (try clear hk); (try clear hi); (try clear ho0); obtain ⟨Ao16, co16, eo16, _⟩ := Kd.Q_slice HO603.out; subst eo16) | ((with_reducible refine gate_callee (f := 35) rfl ?_); refine goesL_ (some 23) rfl rfl Try.func35 (by kernel_rfl) rfl #[.slice Ao16 t601.length co16, .int .i64 t604, .int .i64 t605] rfl (by (try simp only [List.map_toArray, List.map_cons, List.map_nil]); first | done | rfl | (simp only [List.length_drop, List.length_take]; rfl)) ?_; (with_reducible refine (spec_ParcelSplit.calls k _ _ t601 t604 t605 t607 t608 true _ ?side1 ?side2 A4.out).mono ?_); (case side1 => repeat (first | exact (Kd.Q_reads' HO603.out).2.2 | (with_reducible refine Kd.C_alloc ?_ _) | (with_reducible refine Kd.C_drewN ?_ _) | (with_reducible refine Kd.C_drew ?_))); (case side2 => exact (Kd.Q_reads' HO603.out).2.1); rintro e w17 ⟨v610, v612, rfl, ho0, ho1, hb⟩; refine ⟨_, rfl, ?_⟩; have n0_ := Aside0.mk (Kd.Q_mono (Kd.Q_told (Kd.Q_told (Kd.Q_old (by (with_reducible repeat (first | apply Kd.Q_alloc | apply Kd.Q_drewN | apply Kd.Q_drew)); exact HO603.out) hb) (Kd.R_base ho0)) (Kd.R_base ho1)) (fun _ h_ => h_.1)); have n1_ := Aside0.mk (Kd.R_lower (Kd.R_new' ho0 (Kd.Q_lt (by (with_reducible repeat (first | apply Kd.Q_alloc | apply Kd.Q_drewN | apply Kd.Q_drew)); exact HO603.out))) (below_size (by repeat (first | (with_reducible first | exact HB.out | apply below_alloc | apply pw_below_drewN | apply below_drew1 | refine below_set ?_ (IsS81.ge HI600.out)) | exact HB.out)))); have n2_ := Aside0.mk (Kd.R_lower (Kd.R_new' ho1 (Kd.Q_lt (by (with_reducible repeat (first | apply Kd.Q_alloc | apply Kd.Q_drewN | apply Kd.Q_drew)); exact HO603.out))) (below_size (by repeat (first | (with_reducible first | exact HB.out | apply below_alloc | apply pw_below_drewN | apply below_drew1 | refine below_set ?_ (IsS81.ge HI600.out)) | exact HB.out)))); have n3_ := Aside0.mk (IsS81.below (by repeat (first | (with_reducible first | exact HI600.out | apply IsS81.alloc | apply IsS81.drewN | apply IsS81.drew | apply IsS81.set_1) | exact HI600.out)) hb); have n4_ := Aside0.mk (below_step (by repeat (first | (with_reducible first | exact HB.out | apply below_alloc | apply pw_below_drewN | apply below_drew1 | refine below_set ?_ (IsS81.ge HI600.out)) | exact HB.out)) hb); clear HO603; clear HI600; clear HB; have HO603 := n0_; have HO611 := n1_; have HO613 := n2_; have HI600 := n3_; have HB := n4_; clear n0_ n1_ n2_ n3_ n4_; (try clear hb); (try clear hb2); (try clear hk); (try clear hi); (try clear ho0); (try clear ho1)) | (go_at_call 48; (with_reducible refine (spec_l6Rd_pick.calls k g600 t598 t606 4 t614 t615 w _ ?side1 ?side2 A6.out).mono ?_); (case side1 => repeat (first | (with_reducible first | exact HI600.out | apply IsS81.alloc | apply IsS81.drewN | apply IsS81.drew | apply IsS81.set_1) | exact HI600.out)); (case side2 => repeat (first | (with_reducible first | exact HB.out | apply below_alloc | apply pw_below_drewN | apply below_drew1 | refine below_set ?_ (IsS81.ge HI600.out)) | exact HB.out)); rintro e w18 ⟨rfl, hi, hb, hk⟩; have n0_ := Aside0.mk (Kd.Q_mono (Kd.Q_keep (IsS81.apartQ (show IsS81 w _ g600 t598 t606 from by repeat (first | (with_reducible first | exact HI600.out | apply IsS81.alloc | apply IsS81.drewN | apply IsS81.drew | apply IsS81.set_1) | exact HI600.out)) (by (with_reducible repeat (first | apply Kd.Q_alloc | apply Kd.Q_drewN | apply Kd.Q_drew)); exact HO603.out) (by decide)) hk (fun _ h => h.2)) (fun _ h => h.1)); have n1_ := Aside0.mk (Kd.R_mono (Kd.R_keep (IsS81.apart (show IsS81 w _ g600 t598 t606 from by repeat (first | (with_reducible first | exact HI600.out | apply IsS81.alloc | apply IsS81.drewN | apply IsS81.drew | apply IsS81.set_1) | exact HI600.out)) (by (with_reducible repeat (first | apply Kd.R_alloc | apply Kd.R_drewN | apply Kd.R_drew)); exact HO611.out) (by decide)) hk (fun _ h => h.2)) (fun _ h => h.1)); have n2_ := Aside0.mk (Kd.R_mono (Kd.R_keep (IsS81.apart (show IsS81 w _ g600 t598 t606 from by repeat (first | (with_reducible first | exact HI600.out | apply IsS81.alloc | apply IsS81.drewN | apply IsS81.drew | apply IsS81.set_1) | exact HI600.out)) (by (with_reducible repeat (first | apply Kd.R_alloc | apply Kd.R_drewN | apply Kd.R_drew)); exact HO613.out) (by decide)) hk (fun _ h => h.2)) (fun _ h => h.1)); have n3_ := Aside0.mk (hb); have n4_ := Aside0.mk (hi); clear HO603; clear HO611; clear HO613; clear HB; clear HI600; have HO603 := n0_; have HO611 := n1_; have HO613 := n2_; have HB := n3_; have HI600 := n4_; clear n0_ n1_ n2_ n3_ n4_; (try clear hb); (try clear hb2); (try clear hk); (try clear hi)) | ((with_reducible refine gate_callee (f := 41) rfl ?_); refine goesL_ (some 37) rfl rfl Try.func41 (by kernel_rfl) rfl #[.pointer (some ⟨g600, 0, none⟩)] rfl (by (try simp only [List.map_toArray, List.map_cons, List.map_nil]); first | done | rfl | (simp only [List.length_drop, List.length_take]; rfl)) ?_; (with_reducible refine (spec_l92Poly.calls k g600 t598 t615 t616 t619 w _ ?side1 ?side2 A13.out).mono ?_); (case side1 => repeat (first | (with_reducible first | exact HI600.out | apply IsS81.alloc | apply IsS81.drewN | apply IsS81.drew | apply IsS81.set_1) | exact HI600.out)); (case side2 => repeat (first | (with_reducible first | exact HB.out | apply below_alloc | apply pw_below_drewN | apply below_drew1 | refine below_set ?_ (IsS81.ge HI600.out)) | exact HB.out)); rintro e w19 ⟨v617, rfl, ho0, hi, hb, hk⟩; refine ⟨_, rfl, ?_⟩; have n0_ := Aside0.mk (Kd.Q_mono (Kd.Q_told (Kd.Q_oldK (IsS81.apartQ (show IsS81 w _ g600 t598 t615 from by repeat (first | (with_reducible first | exact HI600.out | apply IsS81.alloc | apply IsS81.drewN | apply IsS81.drew | apply IsS81.set_1) | exact HI600.out)) (by (with_reducible repeat (first | apply Kd.Q_alloc | apply Kd.Q_drewN | apply Kd.Q_drew)); exact HO603.out) (by decide)) hk) (Kd.Q_base ho0)) (fun _ h_ => h_.1)); have n1_ := Aside0.mk (Kd.R_mono (Kd.R_told (Kd.R_oldK (IsS81.apart (show IsS81 w _ g600 t598 t615 from by repeat (first | (with_reducible first | exact HI600.out | apply IsS81.alloc | apply IsS81.drewN | apply IsS81.drew | apply IsS81.set_1) | exact HI600.out)) (by (with_reducible repeat (first | apply Kd.R_alloc | apply Kd.R_drewN | apply Kd.R_drew)); exact HO611.out) (by decide)) hk) (Kd.Q_base ho0)) (fun _ h_ => h_.1)); have n2_ := Aside0.mk (Kd.R_mono (Kd.R_told (Kd.R_oldK (IsS81.apart (show IsS81 w _ g600 t598 t615 from by repeat (first | (with_reducible first | exact HI600.out | apply IsS81.alloc | apply IsS81.drewN | apply IsS81.drew | apply IsS81.set_1) | exact HI600.out)) (by (with_reducible repeat (first | apply Kd.R_alloc | apply Kd.R_drewN | apply Kd.R_drew)); exact HO613.out) (by decide)) hk) (Kd.Q_base ho0)) (fun _ h_ => h_.1)); have n3_ := Aside0.mk (Kd.Q_lower (Kd.Q_new' (Kd.Q_new' (Kd.Q_new' ho0 (Kd.Q_lt (by (with_reducible repeat (first | apply Kd.Q_alloc | apply Kd.Q_drewN | apply Kd.Q_drew)); exact HO603.out))) (Kd.R_lt (by (with_reducible repeat (first | apply Kd.R_alloc | apply Kd.R_drewN | apply Kd.R_drew)); exact HO611.out))) (Kd.R_lt (by (with_reducible repeat (first | apply Kd.R_alloc | apply Kd.R_drewN | apply Kd.R_drew)); exact HO613.out))) (below_size (by repeat (first | (with_reducible first | exact HB.out | apply below_alloc | apply pw_below_drewN | apply below_drew1 | refine below_set ?_ (IsS81.ge HI600.out)) | exact HB.out)))); have n4_ := Aside0.mk (hb); have n5_ := Aside0.mk (hi); clear HO603; clear HO611; clear HO613; clear HB; clear HI600; have HO603 := n0_; have HO611 := n1_; have HO613 := n2_; have HO618 := n3_; have HB := n4_; have HI600 := n5_; clear n0_ n1_ n2_ n3_ n4_ n5_; (try clear hb); (try clear hb2); (try clear hk); (try clear hi); (try clear ho0)))
      go_ret2
      exact ⟨_, _, by first | rfl | (simp [errW_none, errW_some] <;> rfl) | (simp [*, errW_none, errW_some] <;> rfl), by (with_reducible repeat (first | apply Kd.Q_alloc | apply Kd.Q_drewN | apply Kd.Q_drew)); exact Kd.Q_mono HO603.out (fun _ hk => hk.2), by (with_reducible repeat (first | apply Kd.Q_alloc | apply Kd.Q_drewN | apply Kd.Q_drew)); exact Kd.Q_mono HO618.out (fun _ hk => hk.1.1.2), by repeat (first | (with_reducible first | exact HB.out | apply below_alloc | apply pw_below_drewN | apply below_drew1 | refine below_set ?_ (IsS81.ge HI600.out)) | exact HB.out)⟩
  · replace c5 := Bool.eq_false_iff.mpr c5
    subst c5
    have H1 : ((spec_l92Poly.f k t598 t606).bind fun bt620 => (some (t601, bt620.1))) = some (r1, r2) := by rw [if_neg (show ¬ (false = true) by decide)] at H; exact H
    clear H
    have H := H1
    clear H1
    replace H := Option.bind_eq_some_iff.mp H
    obtain ⟨⟨t620, t623⟩, A200, H⟩ := H
    replace H : (some (t601, t620)) = some (r1, r2) := H
    have A20 := Aside0.mk A200
    clear A200
    simp only [Option.some.injEq, Prod.mk.injEq] at H
    obtain ⟨rfl, rfl⟩ := H
    go_enter Try.func30, Try.ntmps30
    go_wp2_with (first | ((with_reducible refine gate_callee (f := 42) rfl ?_); refine goesL_ (some 12) rfl rfl Try.func42 (by kernel_rfl) rfl #[.slice A0 l0.length c0] rfl (by (try simp only [List.map_toArray, List.map_cons, List.map_nil]); first | done | rfl | (simp only [List.length_drop, List.length_take]; rfl)) ?_; (with_reducible refine (spec_l6Open.calls _ _ l0 t598 t599 w _ ?side1 ?side2 ?side3 A2.out).mono ?_); (case side1 => repeat (first | (with_reducible first | exact HB.out | apply below_alloc | apply pw_below_drewN | apply below_drew1) | exact HB.out)); (case side2 => exact HR0.out); (case side3 => exact HC0.out); rintro e w21 ⟨g600, rfl, hi, hb, hb2⟩; refine ⟨_, rfl, ?_⟩; have n0_ := Aside0.mk (hb); have n1_ := Aside0.mk (hi); clear HB; have HB := n0_; have HI600 := n1_; clear n0_ n1_; (try clear hb); (try clear hb2); (try clear hk); (try clear hi)) | ((with_reducible refine gate_callee (f := 65) rfl ?_); refine goesL_ (some 15) rfl rfl Try.func65 (by kernel_rfl) rfl #[.pointer (some ⟨g600, 0, none⟩)] rfl (by (try simp only [List.map_toArray, List.map_cons, List.map_nil]); first | done | rfl | (simp only [List.length_drop, List.length_take]; rfl)) ?_; (with_reducible refine (spec_l92Split.calls k g600 t598 t599 t601 t604 t605 t606 w _ ?side1 ?side2 A3.out).mono ?_); (case side1 => repeat (first | (with_reducible first | exact HI600.out | apply IsS81.alloc | apply IsS81.drewN | apply IsS81.drew | apply IsS81.set_1) | exact HI600.out)); (case side2 => repeat (first | (with_reducible first | exact HB.out | apply below_alloc | apply pw_below_drewN | apply below_drew1 | refine below_set ?_ (IsS81.ge HI600.out)) | exact HB.out)); rintro e w22 ⟨v602, rfl, ho0, hi, hb, hk⟩; refine ⟨_, rfl, ?_⟩; have n0_ := Aside0.mk (Kd.Q_lower ho0 (below_size (by repeat (first | (with_reducible first | exact HB.out | apply below_alloc | apply pw_below_drewN | apply below_drew1 | refine below_set ?_ (IsS81.ge HI600.out)) | exact HB.out)))); have n1_ := Aside0.mk (hb); have n2_ := Aside0.mk (hi); clear HB; clear HI600; have HO603 := n0_; have HB := n1_; have HI600 := n2_; clear n0_ n1_ n2_; (try clear hb); (try clear hb2); (try clear hk); (try clear hi); (try clear ho0); obtain ⟨Ao23, co23, eo23, _⟩ := Kd.Q_slice HO603.out; subst eo23) | ((with_reducible refine gate_callee (f := 35) rfl ?_); refine goesL_ (some 23) rfl rfl Try.func35 (by kernel_rfl) rfl #[.slice Ao23 t601.length co23, .int .i64 t604, .int .i64 t605] rfl (by (try simp only [List.map_toArray, List.map_cons, List.map_nil]); first | done | rfl | (simp only [List.length_drop, List.length_take]; rfl)) ?_; (with_reducible refine (spec_ParcelSplit.calls k _ _ t601 t604 t605 t607 t608 false _ ?side1 ?side2 A4.out).mono ?_); (case side1 => repeat (first | exact (Kd.Q_reads' HO603.out).2.2 | (with_reducible refine Kd.C_alloc ?_ _) | (with_reducible refine Kd.C_drewN ?_ _) | (with_reducible refine Kd.C_drew ?_))); (case side2 => exact (Kd.Q_reads' HO603.out).2.1); rintro e w24 ⟨v610, v612, rfl, ho0, ho1, hb⟩; refine ⟨_, rfl, ?_⟩; have n0_ := Aside0.mk (Kd.Q_mono (Kd.Q_told (Kd.Q_told (Kd.Q_old (by (with_reducible repeat (first | apply Kd.Q_alloc | apply Kd.Q_drewN | apply Kd.Q_drew)); exact HO603.out) hb) (Kd.R_base ho0)) (Kd.R_base ho1)) (fun _ h_ => h_.1)); have n1_ := Aside0.mk (Kd.R_lower (Kd.R_new' ho0 (Kd.Q_lt (by (with_reducible repeat (first | apply Kd.Q_alloc | apply Kd.Q_drewN | apply Kd.Q_drew)); exact HO603.out))) (below_size (by repeat (first | (with_reducible first | exact HB.out | apply below_alloc | apply pw_below_drewN | apply below_drew1 | refine below_set ?_ (IsS81.ge HI600.out)) | exact HB.out)))); have n2_ := Aside0.mk (Kd.R_lower (Kd.R_new' ho1 (Kd.Q_lt (by (with_reducible repeat (first | apply Kd.Q_alloc | apply Kd.Q_drewN | apply Kd.Q_drew)); exact HO603.out))) (below_size (by repeat (first | (with_reducible first | exact HB.out | apply below_alloc | apply pw_below_drewN | apply below_drew1 | refine below_set ?_ (IsS81.ge HI600.out)) | exact HB.out)))); have n3_ := Aside0.mk (IsS81.below (by repeat (first | (with_reducible first | exact HI600.out | apply IsS81.alloc | apply IsS81.drewN | apply IsS81.drew | apply IsS81.set_1) | exact HI600.out)) hb); have n4_ := Aside0.mk (below_step (by repeat (first | (with_reducible first | exact HB.out | apply below_alloc | apply pw_below_drewN | apply below_drew1 | refine below_set ?_ (IsS81.ge HI600.out)) | exact HB.out)) hb); clear HO603; clear HI600; clear HB; have HO603 := n0_; have HO611 := n1_; have HO613 := n2_; have HI600 := n3_; have HB := n4_; clear n0_ n1_ n2_ n3_ n4_; (try clear hb); (try clear hb2); (try clear hk); (try clear hi); (try clear ho0); (try clear ho1)) | ((with_reducible refine gate_callee (f := 41) rfl ?_); refine goesL_ (some 37) rfl rfl Try.func41 (by kernel_rfl) rfl #[.pointer (some ⟨g600, 0, none⟩)] rfl (by (try simp only [List.map_toArray, List.map_cons, List.map_nil]); first | done | rfl | (simp only [List.length_drop, List.length_take]; rfl)) ?_; (with_reducible refine (spec_l92Poly.calls k g600 t598 t606 t620 t623 w _ ?side1 ?side2 A20.out).mono ?_); (case side1 => repeat (first | (with_reducible first | exact HI600.out | apply IsS81.alloc | apply IsS81.drewN | apply IsS81.drew | apply IsS81.set_1) | exact HI600.out)); (case side2 => repeat (first | (with_reducible first | exact HB.out | apply below_alloc | apply pw_below_drewN | apply below_drew1 | refine below_set ?_ (IsS81.ge HI600.out)) | exact HB.out)); rintro e w25 ⟨v621, rfl, ho0, hi, hb, hk⟩; refine ⟨_, rfl, ?_⟩; have n0_ := Aside0.mk (Kd.Q_mono (Kd.Q_told (Kd.Q_oldK (IsS81.apartQ (show IsS81 w _ g600 t598 t606 from by repeat (first | (with_reducible first | exact HI600.out | apply IsS81.alloc | apply IsS81.drewN | apply IsS81.drew | apply IsS81.set_1) | exact HI600.out)) (by (with_reducible repeat (first | apply Kd.Q_alloc | apply Kd.Q_drewN | apply Kd.Q_drew)); exact HO603.out) (by decide)) hk) (Kd.Q_base ho0)) (fun _ h_ => h_.1)); have n1_ := Aside0.mk (Kd.R_mono (Kd.R_told (Kd.R_oldK (IsS81.apart (show IsS81 w _ g600 t598 t606 from by repeat (first | (with_reducible first | exact HI600.out | apply IsS81.alloc | apply IsS81.drewN | apply IsS81.drew | apply IsS81.set_1) | exact HI600.out)) (by (with_reducible repeat (first | apply Kd.R_alloc | apply Kd.R_drewN | apply Kd.R_drew)); exact HO611.out) (by decide)) hk) (Kd.Q_base ho0)) (fun _ h_ => h_.1)); have n2_ := Aside0.mk (Kd.R_mono (Kd.R_told (Kd.R_oldK (IsS81.apart (show IsS81 w _ g600 t598 t606 from by repeat (first | (with_reducible first | exact HI600.out | apply IsS81.alloc | apply IsS81.drewN | apply IsS81.drew | apply IsS81.set_1) | exact HI600.out)) (by (with_reducible repeat (first | apply Kd.R_alloc | apply Kd.R_drewN | apply Kd.R_drew)); exact HO613.out) (by decide)) hk) (Kd.Q_base ho0)) (fun _ h_ => h_.1)); have n3_ := Aside0.mk (Kd.Q_lower (Kd.Q_new' (Kd.Q_new' (Kd.Q_new' ho0 (Kd.Q_lt (by (with_reducible repeat (first | apply Kd.Q_alloc | apply Kd.Q_drewN | apply Kd.Q_drew)); exact HO603.out))) (Kd.R_lt (by (with_reducible repeat (first | apply Kd.R_alloc | apply Kd.R_drewN | apply Kd.R_drew)); exact HO611.out))) (Kd.R_lt (by (with_reducible repeat (first | apply Kd.R_alloc | apply Kd.R_drewN | apply Kd.R_drew)); exact HO613.out))) (below_size (by repeat (first | (with_reducible first | exact HB.out | apply below_alloc | apply pw_below_drewN | apply below_drew1 | refine below_set ?_ (IsS81.ge HI600.out)) | exact HB.out)))); have n4_ := Aside0.mk (hb); have n5_ := Aside0.mk (hi); clear HO603; clear HO611; clear HO613; clear HB; clear HI600; have HO603 := n0_; have HO611 := n1_; have HO613 := n2_; have HO622 := n3_; have HB := n4_; have HI600 := n5_; clear n0_ n1_ n2_ n3_ n4_ n5_; (try clear hb); (try clear hb2); (try clear hk); (try clear hi); (try clear ho0)))
    go_ret2
    exact ⟨_, _, by first | rfl | (simp [errW_none, errW_some] <;> rfl) | (simp [*, errW_none, errW_some] <;> rfl), by (with_reducible repeat (first | apply Kd.Q_alloc | apply Kd.Q_drewN | apply Kd.Q_drew)); exact Kd.Q_mono HO603.out (fun _ hk => hk.2), by (with_reducible repeat (first | apply Kd.Q_alloc | apply Kd.Q_drewN | apply Kd.Q_drew)); exact Kd.Q_mono HO622.out (fun _ hk => hk.1.1.2), by repeat (first | (with_reducible first | exact HB.out | apply below_alloc | apply pw_below_drewN | apply below_drew1 | refine below_set ?_ (IsS81.ge HI600.out)) | exact HB.out)⟩

end Go.Proofs.Ytgdhgncdpmalcaa.Q
namespace Go.Proofs.Ytgdhgncdpmalcaa.Ring
open Go.RowKit Go.Shelf Go.Proofs.Ytgdhgncdpmalcaa.Q Go.Proofs.Ytgdhgncdpmalcaa.Drawn Go.Proofs.YtgdhgncdpmalcaaW.PrintWords Go.Proofs.YtgdhgncdpmalcaaW.PrintLast Go.Proofs.YtgdhgncdpmalcaaW.PrintMore
set_option linter.unusedVariables false
set_option linter.unusedSimpArgs false
attribute [local go_sem] Oper.semAt_some
theorem simple_isnt (A0 : Option Addr) (c0 : Nat) (l0 : List Pt) (w : World) (hr0 : Kd.C k32 w A0 l0.length l0) (hc0 : l0.length ≤ c0) (h : okS l0 = false) :
    Calls Try.prog 49 #[.slice A0 l0.length c0] w (NoRing w) := by
  cases hc : Pure.cvB l0
  · exact simple_isnt_a A0 c0 l0 w hr0 hc0 hc
  · exact simple_isnt_b A0 c0 l0 w hr0 hc0 hc (by unfold okS at h; rw [hc, Bool.true_and] at h; exact h)
theorem simple_yes (A0 : Option Addr) (c0 : Nat) (l0 : List Pt) (w : World) (hr0 : Kd.C k32 w A0 l0.length l0) (hc0 : l0.length ≤ c0) (h : okS l0 = true) :
    Calls Try.prog 49 #[.slice A0 l0.length c0] w (IsRing w l0) := by
  unfold okS at h
  rw [Bool.and_eq_true] at h
  exact simple_is A0 c0 l0 w hr0 hc0 h.1 h.2
end Go.Proofs.Ytgdhgncdpmalcaa.Ring
namespace Go.Proofs.Ytgdhgncdpmalcaa.Ring
open Go.RowKit Go.Shelf Go.Proofs.Ytgdhgncdpmalcaa.Q Go.Proofs.Ytgdhgncdpmalcaa.Drawn Go.Proofs.YtgdhgncdpmalcaaW.PrintWords Go.Proofs.YtgdhgncdpmalcaaW.PrintLast Go.Proofs.YtgdhgncdpmalcaaW.PrintMore
set_option linter.unusedVariables false
set_option linter.unusedSimpArgs false
attribute [local go_sem] Oper.semAt_some
set_option maxRecDepth 100000 in
set_option maxHeartbeats 4000000 in
theorem parcel_isnt_a (A0 : Option Addr) (c0 : Nat) (l0 : List Pt) (w : World) (hr0 : Kd.C k32 w A0 l0.length l0) (hc0 : l0.length ≤ c0) (h : okS l0 = false) :
    Calls Try.prog 52 #[.slice A0 l0.length c0] w (NoRing w) := by
  have HR0 := Aside0.mk hr0
  have HC0 := Aside0.mk hc0
  have HX := Aside0.mk h
  clear hr0 hc0 h
  go_enter Try.func52, Try.ntmps52
  go_wp2_with (go_at_call 49; refine (simple_isnt A0 c0 l0 _ ?s1 HC0.out HX.out).mono ?_; (case s1 => exact Kd.C_below HR0.out (by first | exact Below.refl _ _ | exact (Below.refl _ _).alloc (Nat.le_refl _) _)); rintro e w1 ⟨rfl, hb⟩; have hz : w.heap.size < w1.heap.size := (by have := hb.size; simp at this; omega); have hz1 : ¬ w1.heap.size = w.heap.size := (by omega); have hz2 : ¬ w.heap.size = w1.heap.size := (by omega); have HB := Aside0.mk (((Below.refl w.heap.size w).alloc (Nat.le_refl _) _).trans (hb.mono (by simp))); have hb' := Below.mono hb (B' := w.heap.size + 1) (by simp); have z0 := (at_new hb' 0).1; have z1 := (at_new hb' 1).1; have y0 := (at_new hb' 0).2; have y1 := (at_new hb' 1).2; simp [go_sem] at z0 z1 y0 y1;  clear hb hb')
  refine bodyPost_ret (v := .tuple #[.agg #[.pointer none, .int .i64 0], .bool false]) (by simp [results, Try.results52, go_sem, z0, z1, hz, hz1, hz2]) rfl ⟨rfl, ?_⟩
  exact ((HB.out.setCell (p := ⟨w.heap.size, 0, none⟩) (Nat.le_refl _) _).setCell (p := ⟨w.heap.size, 1, none⟩) (Nat.le_refl _) _).alloc (by simp; omega) _

set_option maxRecDepth 100000 in
set_option maxHeartbeats 4000000 in
theorem parcel_isnt_b (A0 : Option Addr) (c0 : Nat) (l0 : List Pt) (w : World) (hr0 : Kd.C k32 w A0 l0.length l0) (hc0 : l0.length ≤ c0) (h : okS l0 = true) (ha : areaS l0 l0.length ≤ 0) :
    Calls Try.prog 52 #[.slice A0 l0.length c0] w (NoRing w) := by
  have HR0 := Aside0.mk hr0
  have HC0 := Aside0.mk hc0
  have HX := Aside0.mk h
  clear hr0 hc0 h
  go_enter Try.func52, Try.ntmps52
  go_wp2_with (first | (go_at_call 49; refine (simple_yes A0 c0 l0 _ ?s1 HC0.out HX.out).mono ?_; (case s1 => exact Kd.C_below HR0.out (by first | exact Below.refl _ _ | exact (Below.refl _ _).alloc (Nat.le_refl _) _)); rintro e w1 ⟨bs, rfl, hR, hlo0, hb⟩; have HR := Aside0.mk hR; have HLO := Aside0.mk (fun j hj => (show w.heap.size + 1 ≤ bs j from by have := hlo0 j hj; simpa using this)); have hz : w.heap.size < w1.heap.size := (by have := hb.size; simp at this; omega); have hz1 : ¬ w1.heap.size = w.heap.size := (by omega); have hz2 : ¬ w.heap.size = w1.heap.size := (by omega); have HB := Aside0.mk (((Below.refl w.heap.size w).alloc (Nat.le_refl _) _).trans (hb.mono (by simp))); have hb' := Below.mono hb (B' := w.heap.size + 1) (by simp); have z0 := (at_new hb' 0).1; have z1 := (at_new hb' 1).1; have y0 := (at_new hb' 0).2; have y1 := (at_new hb' 1).2; simp [go_sem] at z0 z1 y0 y1;  clear hb hb' hR hlo0) | (go_at_call 44; refine (area_calls w1.heap.size bs l0 _ (HR.out.below ((Below.refl _ _).alloc (Nat.le_refl _) _)) (by simp)).mono ?_; rintro e w2 ⟨rfl, hb2⟩; have hs2 : w1.heap.size + 1 ≤ w2.heap.size := (by have := hb2.size; simp at this; omega); have HB2 := Aside0.mk (HB.out.alloc HB.out.size (.cells #[.pointer (some ⟨bs 0, 0, none⟩), .int .i64 l0.length] 54) |>.trans (hb2.mono (by have := HB.out.size; simp; omega))); have hb1 : Below (w1.heap.size + 1) (w1.alloc (.cells #[.pointer (some ⟨bs 0, 0, none⟩), .int .i64 l0.length] 54)) w2 := hb2.mono (by simp); have v0 := (at_new hb1 0).1; have v1 := (at_new hb1 1).1; simp at v0 v1; have hb3 := ((Below.refl w1.heap.size w1).alloc (Nat.le_refl _) (.cells #[.pointer (some ⟨bs 0, 0, none⟩), .int .i64 l0.length] 54)).trans (hb1.mono (by omega)); have q0 := (hb3.cell (p := ⟨w.heap.size, 0, none⟩) hz).trans z0; have q1 := (hb3.cell (p := ⟨w.heap.size, 1, none⟩) hz).trans z1; have x0 := (hb3.frozen (p := ⟨w.heap.size, 0, none⟩) hz).trans y0; have x1 := (hb3.frozen (p := ⟨w.heap.size, 1, none⟩) hz).trans y1; have HR2 := Aside0.mk ((HR.out.below hb3).mono (show w1.heap.size ≤ w2.heap.size by omega)); clear hb2 hb1 hb3 z0 z1 y0 y1))
  refine bodyPost_ret (v := .tuple #[.agg #[.pointer none, .int .i64 0], .bool false]) (by simp [results, Try.results52, go_sem, q0, q1, hz, hz1, hz2]) rfl ⟨rfl, ?_⟩
  exact (HB2.out.setCell (p := ⟨w.heap.size, 0, none⟩) (Nat.le_refl _) _).setCell (p := ⟨w.heap.size, 1, none⟩) (Nat.le_refl _) _

set_option maxRecDepth 100000 in
set_option maxHeartbeats 4000000 in
theorem parcel_is (A0 : Option Addr) (c0 : Nat) (l0 : List Pt) (w : World) (hr0 : Kd.C k32 w A0 l0.length l0) (hc0 : l0.length ≤ c0) (h : okS l0 = true) (ha : ¬ areaS l0 l0.length ≤ 0) :
    Calls Try.prog 52 #[.slice A0 l0.length c0] w (IsRing w l0) := by
  have HR0 := Aside0.mk hr0
  have HC0 := Aside0.mk hc0
  have HX := Aside0.mk h
  clear hr0 hc0 h
  go_enter Try.func52, Try.ntmps52
  go_wp2_with (first | (go_at_call 49; refine (simple_yes A0 c0 l0 _ ?s1 HC0.out HX.out).mono ?_; (case s1 => exact Kd.C_below HR0.out (by first | exact Below.refl _ _ | exact (Below.refl _ _).alloc (Nat.le_refl _) _)); rintro e w1 ⟨bs, rfl, hR, hlo0, hb⟩; have HR := Aside0.mk hR; have HLO := Aside0.mk (fun j hj => (show w.heap.size + 1 ≤ bs j from by have := hlo0 j hj; simpa using this)); have hz : w.heap.size < w1.heap.size := (by have := hb.size; simp at this; omega); have hz1 : ¬ w1.heap.size = w.heap.size := (by omega); have hz2 : ¬ w.heap.size = w1.heap.size := (by omega); have HB := Aside0.mk (((Below.refl w.heap.size w).alloc (Nat.le_refl _) _).trans (hb.mono (by simp))); have hb' := Below.mono hb (B' := w.heap.size + 1) (by simp); have z0 := (at_new hb' 0).1; have z1 := (at_new hb' 1).1; have y0 := (at_new hb' 0).2; have y1 := (at_new hb' 1).2; simp [go_sem] at z0 z1 y0 y1;  clear hb hb' hR hlo0) | (go_at_call 44; refine (area_calls w1.heap.size bs l0 _ (HR.out.below ((Below.refl _ _).alloc (Nat.le_refl _) _)) (by simp)).mono ?_; rintro e w2 ⟨rfl, hb2⟩; have hs2 : w1.heap.size + 1 ≤ w2.heap.size := (by have := hb2.size; simp at this; omega); have HB2 := Aside0.mk (HB.out.alloc HB.out.size (.cells #[.pointer (some ⟨bs 0, 0, none⟩), .int .i64 l0.length] 54) |>.trans (hb2.mono (by have := HB.out.size; simp; omega))); have hb1 : Below (w1.heap.size + 1) (w1.alloc (.cells #[.pointer (some ⟨bs 0, 0, none⟩), .int .i64 l0.length] 54)) w2 := hb2.mono (by simp); have v0 := (at_new hb1 0).1; have v1 := (at_new hb1 1).1; simp at v0 v1; have hb3 := ((Below.refl w1.heap.size w1).alloc (Nat.le_refl _) (.cells #[.pointer (some ⟨bs 0, 0, none⟩), .int .i64 l0.length] 54)).trans (hb1.mono (by omega)); have q0 := (hb3.cell (p := ⟨w.heap.size, 0, none⟩) hz).trans z0; have q1 := (hb3.cell (p := ⟨w.heap.size, 1, none⟩) hz).trans z1; have x0 := (hb3.frozen (p := ⟨w.heap.size, 0, none⟩) hz).trans y0; have x1 := (hb3.frozen (p := ⟨w.heap.size, 1, none⟩) hz).trans y1; have HR2 := Aside0.mk ((HR.out.below hb3).mono (show w1.heap.size ≤ w2.heap.size by omega)); clear hb2 hb1 hb3 z0 z1 y0 y1))
  refine bodyPost_ret (v := .tuple #[.agg #[.pointer (some ⟨bs 0, 0, none⟩), .int .i64 l0.length], .bool true]) (by simp [results, Try.results52, go_sem, q0, q1, hz, hz1, hz2]) rfl ⟨bs, rfl, ?_, fun j hj => by have := HLO.out j hj; omega, ?_⟩
  · exact ((HR2.out.setCell (p := ⟨w.heap.size, 0, none⟩) (fun j hj => by have := HLO.out j hj; dsimp only; omega) _).setCell (p := ⟨w.heap.size, 1, none⟩) (fun j hj => by have := HLO.out j hj; dsimp only; omega) _).mono (by simp)
  · exact (HB2.out.setCell (p := ⟨w.heap.size, 0, none⟩) (Nat.le_refl _) _).setCell (p := ⟨w.heap.size, 1, none⟩) (Nat.le_refl _) _

theorem parcel_no (A0 : Option Addr) (c0 : Nat) (l0 : List Pt) (w : World) (hr0 : Kd.C k32 w A0 l0.length l0) (hc0 : l0.length ≤ c0) (h : okP l0 = false) :
    Calls Try.prog 52 #[.slice A0 l0.length c0] w (NoRing w) := by
  cases hc : okS l0
  · exact parcel_isnt_a A0 c0 l0 w hr0 hc0 hc
  · exact parcel_isnt_b A0 c0 l0 w hr0 hc0 hc (by unfold okP at h; rw [hc, Bool.true_and, decide_eq_false_iff_not] at h; omega)
theorem parcel_yes (A0 : Option Addr) (c0 : Nat) (l0 : List Pt) (w : World) (hr0 : Kd.C k32 w A0 l0.length l0) (hc0 : l0.length ≤ c0) (h : okP l0 = true) :
    Calls Try.prog 52 #[.slice A0 l0.length c0] w (IsRing w l0) := by
  unfold okP at h
  rw [Bool.and_eq_true, decide_eq_true_eq] at h
  exact parcel_is A0 c0 l0 w hr0 hc0 h.1 (by omega)

end Go.Proofs.Ytgdhgncdpmalcaa.Ring
namespace Go.Proofs.Ytgdhgncdpmalcaa.Ring
open Go.RowKit Go.Shelf Go.Proofs.Ytgdhgncdpmalcaa.Q Go.Proofs.Ytgdhgncdpmalcaa.Drawn Go.Proofs.YtgdhgncdpmalcaaW.PrintWords Go.Proofs.YtgdhgncdpmalcaaW.PrintLast Go.Proofs.YtgdhgncdpmalcaaW.PrintMore
set_option linter.unusedVariables false
set_option linter.unusedSimpArgs false
attribute [local go_sem] Oper.semAt_some

def hasAt (l : List Pt) (p q : Pt) (k : Nat) : Bool := sameP (at_ l k) p && sameP (nxt l k) q
def hasS (l : List Pt) (p q : Pt) : Bool := (List.range l.length).any (hasAt l p q)
theorem hasS_yes {l : List Pt} {p q : Pt} {k : Nat} (hk : k < l.length) (h : hasAt l p q k = true) : hasS l p q = true := List.any_eq_true.2 ⟨k, List.mem_range.2 hk, h⟩
theorem hasS_no {l : List Pt} {p q : Pt} (h : ∀ k, k < l.length → hasAt l p q k = false) : hasS l p q = false := by
  unfold hasS
  cases hc : (List.range l.length).any (hasAt l p q)
  · rfl
  · obtain ⟨k, hk, hh⟩ := List.any_eq_true.1 hc
    rw [h k (List.mem_range.1 hk)] at hh; cases hh
set_option maxRecDepth 100000 in
set_option maxHeartbeats 4000000 in
theorem hasSide_calls (top : Nat) (bs : Nat → Nat) (l : List Pt) (p q : Pt) (w : World) (hR : Ring w top bs l) (htop : top ≤ w.heap.size) :
    Calls Try.prog 66 #[.agg #[.pointer (some ⟨bs 0, 0, none⟩), .int .i64 l.length], .agg #[.int .i64 p.f0, .int .i64 p.f1], .agg #[.int .i64 q.f0, .int .i64 q.f1]] w fun e w' => e = .returned (.bool (hasS l p q)) ∧ Below w.heap.size w w' := by
  refine (callsIn_wide (n := 0)).1 (callsIn_of_wp_marks Try.func66 rfl trivial ?_ rfl)
  simp only [Try.ntmps66, List.size_toArray, List.length_cons, List.length_nil, Nat.reduceAdd, Nat.reduceSub, Array.replicate_succ, Array.replicate_zero, List.push_toArray, List.append_toArray, List.nil_append, List.cons_append]
  have HR := Aside0.mk hR
  clear hR
  gi_wp2
  obtain ⟨W0, hW0⟩ : ∃ W0, (((w.alloc (.cells #[.pointer (some ⟨bs 0, 0, none⟩), .int .i64 l.length] 62)).alloc (.cells #[.int .i64 p.f0, .int .i64 p.f1] 32)).alloc (.cells #[.int .i64 q.f0, .int .i64 q.f1] 32)).alloc (.cells #[.bool false] 4) = W0 := ⟨_, rfl⟩
  have hs : W0.heap.size = w.heap.size + 4 := by rw [← hW0]; simp
  have hr0 : W0.cell? ⟨w.heap.size + 3, 0, none⟩ = some (.bool false) := by rw [← hW0]; simp [go_sem]
  have hf0 : W0.frozen? ⟨w.heap.size + 3, 0, none⟩ = false := by rw [← hW0]; simp [go_sem]
  have hpa : W0.cell? ⟨w.heap.size + 1, 0, none⟩ = some (.int .i64 p.f0) := by rw [← hW0]; simp [go_sem]
  have hpb : W0.cell? ⟨w.heap.size + 1, 1, none⟩ = some (.int .i64 p.f1) := by rw [← hW0]; simp [go_sem]
  have hqa : W0.cell? ⟨w.heap.size + 2, 0, none⟩ = some (.int .i64 q.f0) := by rw [← hW0]; simp [go_sem]
  have hqb : W0.cell? ⟨w.heap.size + 2, 1, none⟩ = some (.int .i64 q.f1) := by rw [← hW0]; simp [go_sem]
  have hb0 : Below w.heap.size w W0 := by rw [← hW0]; exact ((((Below.refl _ w).alloc (Nat.le_refl _) _).alloc (by simp) _).alloc (by simp; omega) _).alloc (by simp; omega) _
  rw [hW0]
  clear hW0
  have HR0 := Aside0.mk (((HR.out.mono htop).below hb0).mono hb0.size)
  refine range_ring W0.heap.size bs l HR0.out (Nat.le_refl _) rfl
    (fun j W => (∀ i, i < j → hasAt l p q i = false) ∧ Below W0.heap.size W0 W)
    (fun c W => c = .ret ∧ (W.cell? ⟨w.heap.size + 3, 0, none⟩ = some (.bool true) ∧ Below w.heap.size w W) ∧ hasS l p q = true)
    ?hI ?hIx ⟨fun i hi => by omega, Below.refl _ _⟩ ?a1 ?assign ?body ?done ?stop
  case hI => exact fun s A B row hs' hg hr => ⟨hs'.1, ownFrom_below (β := Unit) (n₀ := W0.heap.size) (w₀ := W0) (Nat.le_refl _) (Nat.le_refl _) () A B row hs'.2 hg hr⟩
  case hIx => exact fun c A B row hs' hg hr => ⟨hs'.1, ⟨cell_kept hs'.2.1.1 hg (fun r e => (hr r e).2), ownFrom_below (β := Unit) (n₀ := w.heap.size) (w₀ := w) (Nat.le_refl _) (by omega) () A B row hs'.2.1.2 hg hr⟩, hs'.2.2⟩
  case assign =>
    intro r k W K hK
    gi_wp2
    exact hK
  case stop =>
    rintro D c W hD ⟨rfl, ⟨hc, hb⟩, hsb⟩ hK
    have HSB := Aside0.mk hsb
    clear hsb
    have hcD : (W.putObj D (.deferred none)).cell? ⟨w.heap.size + 3, 0, none⟩ = some (.bool true) := cell_kept hc (grownBy_putObj' _ D (.deferred none)) (fun r e => by cases e; exact ⟨_, hK, rfl⟩)
    gi_wp2
    refine ⟨by simp, .inl ⟨_, _, rfl, run_takeDeferred hK, ?_⟩⟩
    exact ⟨_, (by simp [results, Try.results66, go_sem, hcD]; rfl), by rw [HSB.out], hb.trans (belowK_b (w := W0) (by omega) _ _ _ _ hD hK rfl rfl)⟩
  case done =>
    rintro D W hD ⟨hp, hb⟩ hK
    have HSB := Aside0.mk (hasS_no hp)
    have hc := (hb.cell (p := ⟨w.heap.size + 3, 0, none⟩) (by dsimp only; omega)).trans hr0
    have hf := (hb.frozen (p := ⟨w.heap.size + 3, 0, none⟩) (by dsimp only; omega)).trans hf0
    have hK' := (KeepsOthers.setCell W ⟨w.heap.size + 3, 0, none⟩ (.bool false)).same D _ hK rfl
    have hcD : ((W.setCell ⟨w.heap.size + 3, 0, none⟩ (.bool false)).putObj D (.deferred none)).cell? ⟨w.heap.size + 3, 0, none⟩ = some (.bool false) := cell_kept (World.cell?_setCell_same _ _ _ hc) (grownBy_putObj' _ D (.deferred none)) (fun r e => by cases e; exact ⟨_, hK', rfl⟩)
    have hbE := ((hb0.trans (hb.mono (by omega))).setCell (p := ⟨w.heap.size + 3, 0, none⟩) (by dsimp only; omega) (.bool false)).trans (belowK_b (w := W0) (n₀ := w.heap.size) (by omega) _ _ _ (.deferred none) hD hK' rfl rfl)
    clear hp
    gi_wp2
    refine ⟨by simp, .inl ⟨_, _, rfl, run_takeDeferred hK', ?_⟩⟩
    exact ⟨_, (by simp [results, Try.results66, go_sem, hcD]; rfl), by rw [HSB.out], hbE⟩
  case body =>
    rintro r k W hk ⟨hpre, hb⟩ hbt
    have HF := wide_round Try.prog r
    have hsW := hb.size
    have hRW0 := (HR0.out.below hb).mono hsW
    have HPR := Aside0.mk hpre
    clear hpre
    have hRW := hRW0
    have hkp := hRW.pos
    have hrx := Aside0.mk (fun w' (h : Below W.heap.size W w') => (hRW.below h).x k hk)
    have hry := Aside0.mk (fun w' (h : Below W.heap.size W w') => (hRW.below h).y k hk)
    have hrn := Aside0.mk (fun w' (h : Below W.heap.size W w') => (hRW.below h).next k hk)
    have hnk : (k + 1) % l.length < l.length := Nat.mod_lt _ (by omega)
    have hnx := Aside0.mk (fun w' (h : Below W.heap.size W w') => (show w'.cell? ⟨bs ((k + 1) % l.length), 0, none⟩ = some (.int .i64 (nxt l k).f0) from (hRW.below h).x _ hnk))
    have hny := Aside0.mk (fun w' (h : Below W.heap.size W w') => (show w'.cell? ⟨bs ((k + 1) % l.length), 1, none⟩ = some (.int .i64 (nxt l k).f1) from (hRW.below h).y _ hnk))
    clear hRW
    have hp0 := (hb.cell (p := ⟨w.heap.size + 1, 0, none⟩) (by dsimp only; omega)).trans hpa
    have hp1 := (hb.cell (p := ⟨w.heap.size + 1, 1, none⟩) (by dsimp only; omega)).trans hpb
    have hq0 := (hb.cell (p := ⟨w.heap.size + 2, 0, none⟩) (by dsimp only; omega)).trans hqa
    have hq1 := (hb.cell (p := ⟨w.heap.size + 2, 1, none⟩) (by dsimp only; omega)).trans hqb
    have hr := (hb.cell (p := ⟨w.heap.size + 3, 0, none⟩) (by dsimp only; omega)).trans hr0
    have hf := (hb.frozen (p := ⟨w.heap.size + 3, 0, none⟩) (by dsimp only; omega)).trans hf0
    cases hq : sameP (at_ l k) p
    · have HQ := Aside0.mk hq
      have HN0 := Aside0.mk (show hasAt l p q k = false by unfold hasAt; rw [hq]; rfl)
      clear hq
      gi_wp2
      obtain ⟨VS, hVS⟩ : ∃ VS : List (Option Tmp × Value), [(some 12, .pointer (some ⟨bs k, 0, none⟩)), (some 13, .pointer (some ⟨bs k, 0, none⟩)), (some 14, .pointer (some ⟨bs k, 0, none⟩)), (some 15, .agg #[.int .i64 (at_ l k).f0, .int .i64 (at_ l k).f1]), (some 16, .agg #[.int .i64 p.f0, .int .i64 p.f1]), (some 17, .bool false), (some 18, .bool false), (some 19, undef), (some 20, undef), (some 21, undef), (some 22, undef), (some 23, undef), (some 24, undef), (some 25, undef), (some 26, undef), (some 27, undef), (some 28, .bool false)] = VS := ⟨_, rfl⟩
      have HN : (VS.filterMap (·.1)).Nodup := by rw [← hVS]; exact (show List.Nodup [(12 : Tmp), (13 : Tmp), (14 : Tmp), (15 : Tmp), (16 : Tmp), (17 : Tmp), (18 : Tmp), (19 : Tmp), (20 : Tmp), (21 : Tmp), (22 : Tmp), (23 : Tmp), (24 : Tmp), (25 : Tmp), (26 : Tmp), (27 : Tmp), (28 : Tmp)] by decide)
      refine act_name fun A0 hA0 => ?_
      have hT_ : 28 < A0.tmps.size := by rw [← hA0]; simp
      have E4 : ∀ L : List Bool, (fill VS L A0).tmps[4]?.getD undef = .pointer (some ⟨w.heap.size + 1, 0, none⟩) := fun L => fill_old _ _ _ (by rw [← hVS]; exact (show (4 : Tmp) ∉ [(12 : Tmp), (13 : Tmp), (14 : Tmp), (15 : Tmp), (16 : Tmp), (17 : Tmp), (18 : Tmp), (19 : Tmp), (20 : Tmp), (21 : Tmp), (22 : Tmp), (23 : Tmp), (24 : Tmp), (25 : Tmp), (26 : Tmp), (27 : Tmp), (28 : Tmp)] by decide)) (by rw [← hA0]; rfl)
      have E5 : ∀ L : List Bool, (fill VS L A0).tmps[5]?.getD undef = .pointer (some ⟨w.heap.size + 2, 0, none⟩) := fun L => fill_old _ _ _ (by rw [← hVS]; exact (show (5 : Tmp) ∉ [(12 : Tmp), (13 : Tmp), (14 : Tmp), (15 : Tmp), (16 : Tmp), (17 : Tmp), (18 : Tmp), (19 : Tmp), (20 : Tmp), (21 : Tmp), (22 : Tmp), (23 : Tmp), (24 : Tmp), (25 : Tmp), (26 : Tmp), (27 : Tmp), (28 : Tmp)] by decide)) (by rw [← hA0]; rfl)
      have E7 : ∀ L : List Bool, (fill VS L A0).tmps[7]?.getD undef = .pointer (some ⟨bs k, 0, none⟩) := fun L => fill_old _ _ _ (by rw [← hVS]; exact (show (7 : Tmp) ∉ [(12 : Tmp), (13 : Tmp), (14 : Tmp), (15 : Tmp), (16 : Tmp), (17 : Tmp), (18 : Tmp), (19 : Tmp), (20 : Tmp), (21 : Tmp), (22 : Tmp), (23 : Tmp), (24 : Tmp), (25 : Tmp), (26 : Tmp), (27 : Tmp), (28 : Tmp)] by decide)) (by rw [← hA0]; rfl)
      refine drawn_same (by kernel_rfl) (early_spec (by kernel_rfl)) VS (by rw [← hVS]; rfl) HN (fun w' => Below W.heap.size W w') ((Below.refl _ _).drew) ?_ ?_
      · intro i o v L w' ho hv hpre hS K hK
        have hii : i = 0 ∨ i = 1 ∨ i = 2 ∨ i = 3 ∨ i = 4 ∨ i = 5 ∨ i = 6 ∨ i = 7 ∨ i = 8 ∨ i = 9 ∨ i = 10 ∨ i = 11 ∨ i = 12 ∨ i = 13 ∨ i = 14 ∨ i = 15 ∨ i = 16 := by have hq := (Array.getElem?_eq_some_iff.1 ho).1; simp at hq; omega
        rcases hii with rfl | rfl | rfl | rfl | rfl | rfl | rfl | rfl | rfl | rfl | rfl | rfl | rfl | rfl | rfl | rfl | rfl
        · obtain rfl := Option.some.inj ho
          obtain rfl := vs_at hVS hv rfl
          have e7 := E7 L
          refine st_val HF rfl (by simp) rfl (w' := w') ?_ (hK w' hS)
          generalize fill VS L A0 = A at e7 ⊢
          simp [execOp, go_sem, i64_w, e7]
        · obtain rfl := Option.some.inj ho
          obtain rfl := vs_at hVS hv rfl
          have e12 := fill_get HN hVS hT_ (t := 12) (j := 0) rfl rfl (hpre ⟨0, .data⟩ (by simp) rfl)
          refine st_val HF rfl (by simp) rfl (w' := w') ?_ (hK w' hS)
          generalize fill VS L A0 = A at e12 ⊢
          simp [execOp, go_sem, i64_w, e12]
        · obtain rfl := Option.some.inj ho
          obtain rfl := vs_at hVS hv rfl
          have e13 := fill_get HN hVS hT_ (t := 13) (j := 1) rfl rfl (hpre ⟨1, .data⟩ (by simp) rfl)
          refine st_val HF rfl (by simp) rfl (w' := w') ?_ (hK w' hS)
          generalize fill VS L A0 = A at e13 ⊢
          simp [execOp, go_sem, i64_w, e13]
        · obtain rfl := Option.some.inj ho
          obtain rfl := vs_at hVS hv rfl
          have e14 := fill_get HN hVS hT_ (t := 14) (j := 2) rfl rfl (hpre ⟨2, .data⟩ (by simp) rfl)
          have c1 := hrx.out w' hS
          have c2 := hry.out w' hS
          refine st_val HF rfl (by simp) rfl (w' := w') ?_ (hK w' hS)
          generalize fill VS L A0 = A at e14 ⊢
          simp [execOp, go_sem, i64_w, e14, c1, c2]
        · obtain rfl := Option.some.inj ho
          obtain rfl := vs_at hVS hv rfl
          have e4 := E4 L
          have c1 := (hS.cell (p := ⟨w.heap.size + 1, 0, none⟩) (by dsimp only; omega)).trans hp0
          have c2 := (hS.cell (p := ⟨w.heap.size + 1, 1, none⟩) (by dsimp only; omega)).trans hp1
          refine st_val HF rfl (by simp) rfl (w' := w') ?_ (hK w' hS)
          generalize fill VS L A0 = A at e4 ⊢
          simp [execOp, go_sem, i64_w, e4, c1, c2]
        · obtain rfl := Option.some.inj ho
          obtain rfl := vs_at hVS hv rfl
          have e15 := fill_get HN hVS hT_ (t := 15) (j := 3) rfl rfl (hpre ⟨3, .data⟩ (by simp) rfl)
          have e16 := fill_get HN hVS hT_ (t := 16) (j := 4) rfl rfl (hpre ⟨4, .data⟩ (by simp) rfl)
          have e15 := fill_get HN hVS hT_ (t := 15) (j := 3) rfl rfl (hpre ⟨3, .data⟩ (by simp) rfl)
          have e16 := fill_get HN hVS hT_ (t := 16) (j := 4) rfl rfl (hpre ⟨4, .data⟩ (by simp) rfl)
          refine st_val HF rfl (by simp) rfl (w' := w') ?_ (hK w' hS)
          generalize fill VS L A0 = A at e15 e16 ⊢
          simp [execOp, go_sem, e15, e16, run_samePt]
          have hz_ := HQ.out
          simpa [sameP] using hz_
        · obtain rfl := Option.some.inj ho
          obtain rfl := vs_at hVS hv rfl
          have e17 := fill_get HN hVS hT_ (t := 17) (j := 5) rfl rfl (hpre ⟨5, .data⟩ (by simp) rfl)
          refine st_val HF rfl (by simp) rfl (w' := w') ?_ (hK w' hS)
          generalize fill VS L A0 = A at e17 ⊢
          simp [execOp, go_sem, i64_w, e17]
        · obtain rfl := Option.some.inj ho
          obtain rfl := vs_at hVS hv rfl
          have eg := fill_get HN hVS hT_ (t := 18) (j := 6) rfl rfl (hpre ⟨6, .guard⟩ (by simp) rfl)
          exact st_unwanted HF rfl ((wanted_is rfl rfl eg).trans rfl) (hK w' hS)
        · obtain rfl := Option.some.inj ho
          obtain rfl := vs_at hVS hv rfl
          have eg := fill_get HN hVS hT_ (t := 18) (j := 6) rfl rfl (hpre ⟨6, .guard⟩ (by simp) rfl)
          exact st_unwanted HF rfl ((wanted_is rfl rfl eg).trans rfl) (hK w' hS)
        · obtain rfl := Option.some.inj ho
          obtain rfl := vs_at hVS hv rfl
          have eg := fill_get HN hVS hT_ (t := 18) (j := 6) rfl rfl (hpre ⟨6, .guard⟩ (by simp) rfl)
          exact st_unwanted HF rfl ((wanted_is rfl rfl eg).trans rfl) (hK w' hS)
        · obtain rfl := Option.some.inj ho
          obtain rfl := vs_at hVS hv rfl
          have eg := fill_get HN hVS hT_ (t := 18) (j := 6) rfl rfl (hpre ⟨6, .guard⟩ (by simp) rfl)
          exact st_unwanted HF rfl ((wanted_is rfl rfl eg).trans rfl) (hK w' hS)
        · obtain rfl := Option.some.inj ho
          obtain rfl := vs_at hVS hv rfl
          have eg := fill_get HN hVS hT_ (t := 18) (j := 6) rfl rfl (hpre ⟨6, .guard⟩ (by simp) rfl)
          exact st_unwanted HF rfl ((wanted_is rfl rfl eg).trans rfl) (hK w' hS)
        · obtain rfl := Option.some.inj ho
          obtain rfl := vs_at hVS hv rfl
          have eg := fill_get HN hVS hT_ (t := 18) (j := 6) rfl rfl (hpre ⟨6, .guard⟩ (by simp) rfl)
          exact st_unwanted HF rfl ((wanted_is rfl rfl eg).trans rfl) (hK w' hS)
        · obtain rfl := Option.some.inj ho
          obtain rfl := vs_at hVS hv rfl
          have eg := fill_get HN hVS hT_ (t := 18) (j := 6) rfl rfl (hpre ⟨6, .guard⟩ (by simp) rfl)
          exact st_unwanted HF rfl ((wanted_is rfl rfl eg).trans rfl) (hK w' hS)
        · obtain rfl := Option.some.inj ho
          obtain rfl := vs_at hVS hv rfl
          have eg := fill_get HN hVS hT_ (t := 18) (j := 6) rfl rfl (hpre ⟨6, .guard⟩ (by simp) rfl)
          exact st_unwanted HF rfl ((wanted_is rfl rfl eg).trans rfl) (hK w' hS)
        · obtain rfl := Option.some.inj ho
          obtain rfl := vs_at hVS hv rfl
          have eg := fill_get HN hVS hT_ (t := 18) (j := 6) rfl rfl (hpre ⟨6, .guard⟩ (by simp) rfl)
          exact st_unwanted HF rfl ((wanted_is rfl rfl eg).trans rfl) (hK w' hS)
        · obtain rfl := Option.some.inj ho
          obtain rfl := vs_at hVS hv rfl
          have e18 := fill_get HN hVS hT_ (t := 18) (j := 6) rfl rfl (hpre ⟨6, .data⟩ (by simp) rfl)
          have e27 := fill_get HN hVS hT_ (t := 27) (j := 15) rfl rfl (hpre ⟨15, .data⟩ (by simp) rfl)
          refine st_val HF rfl (by simp) rfl (w' := w') ?_ (hK w' hS)
          generalize fill VS L A0 = A at e18 e27 ⊢
          simp [execOp, go_sem, i64_w, e18, e27]
      · intro w' hS'
        rw [← hVS, ← hA0]
        simp only [List.size_toArray, List.length_cons, List.length_nil, Nat.reduceAdd, List.replicate, fill, if_true, Act.put, List.setIfInBounds_toArray, List.set_cons_succ, List.set_cons_zero]
        clear HN E4 E5 E7 hVS hA0 hT_
        have HS := Aside0.mk hS'
        clear hS'
        gi_wp2
        exact ⟨KeepsFrom.of_below HS.out, HS.out.mono hsW, fun i hi => by
          by_cases e : i = k
          · subst e; exact HN0.out
          · exact HPR.out i (by omega), hb.trans (HS.out.mono hsW)⟩
    · have HQ := Aside0.mk hq
      have HN0 := Aside0.mk (show hasAt l p q k = sameP (nxt l k) q by unfold hasAt; rw [hq, Bool.true_and])
      clear hq
      gi_wp2
      obtain ⟨VS, hVS⟩ : ∃ VS : List (Option Tmp × Value), [(some 12, .pointer (some ⟨bs k, 0, none⟩)), (some 13, .pointer (some ⟨bs k, 0, none⟩)), (some 14, .pointer (some ⟨bs k, 0, none⟩)), (some 15, .agg #[.int .i64 (at_ l k).f0, .int .i64 (at_ l k).f1]), (some 16, .agg #[.int .i64 p.f0, .int .i64 p.f1]), (some 17, .bool true), (some 18, .bool true), (some 19, .pointer (some ⟨bs k, 0, none⟩)), (some 20, .pointer (some ⟨bs k, 0, none⟩)), (some 21, .pointer (some ⟨bs k, 2, none⟩)), (some 22, .pointer (some ⟨bs ((k + 1) % l.length), 0, none⟩)), (some 23, .pointer (some ⟨bs ((k + 1) % l.length), 0, none⟩)), (some 24, .pointer (some ⟨bs ((k + 1) % l.length), 0, none⟩)), (some 25, .agg #[.int .i64 (nxt l k).f0, .int .i64 (nxt l k).f1]), (some 26, .agg #[.int .i64 q.f0, .int .i64 q.f1]), (some 27, .bool (sameP (nxt l k) q)), (some 28, .bool (sameP (nxt l k) q))] = VS := ⟨_, rfl⟩
      have HN : (VS.filterMap (·.1)).Nodup := by rw [← hVS]; exact (show List.Nodup [(12 : Tmp), (13 : Tmp), (14 : Tmp), (15 : Tmp), (16 : Tmp), (17 : Tmp), (18 : Tmp), (19 : Tmp), (20 : Tmp), (21 : Tmp), (22 : Tmp), (23 : Tmp), (24 : Tmp), (25 : Tmp), (26 : Tmp), (27 : Tmp), (28 : Tmp)] by decide)
      refine act_name fun A0 hA0 => ?_
      have hT_ : 28 < A0.tmps.size := by rw [← hA0]; simp
      have E4 : ∀ L : List Bool, (fill VS L A0).tmps[4]?.getD undef = .pointer (some ⟨w.heap.size + 1, 0, none⟩) := fun L => fill_old _ _ _ (by rw [← hVS]; exact (show (4 : Tmp) ∉ [(12 : Tmp), (13 : Tmp), (14 : Tmp), (15 : Tmp), (16 : Tmp), (17 : Tmp), (18 : Tmp), (19 : Tmp), (20 : Tmp), (21 : Tmp), (22 : Tmp), (23 : Tmp), (24 : Tmp), (25 : Tmp), (26 : Tmp), (27 : Tmp), (28 : Tmp)] by decide)) (by rw [← hA0]; rfl)
      have E5 : ∀ L : List Bool, (fill VS L A0).tmps[5]?.getD undef = .pointer (some ⟨w.heap.size + 2, 0, none⟩) := fun L => fill_old _ _ _ (by rw [← hVS]; exact (show (5 : Tmp) ∉ [(12 : Tmp), (13 : Tmp), (14 : Tmp), (15 : Tmp), (16 : Tmp), (17 : Tmp), (18 : Tmp), (19 : Tmp), (20 : Tmp), (21 : Tmp), (22 : Tmp), (23 : Tmp), (24 : Tmp), (25 : Tmp), (26 : Tmp), (27 : Tmp), (28 : Tmp)] by decide)) (by rw [← hA0]; rfl)
      have E7 : ∀ L : List Bool, (fill VS L A0).tmps[7]?.getD undef = .pointer (some ⟨bs k, 0, none⟩) := fun L => fill_old _ _ _ (by rw [← hVS]; exact (show (7 : Tmp) ∉ [(12 : Tmp), (13 : Tmp), (14 : Tmp), (15 : Tmp), (16 : Tmp), (17 : Tmp), (18 : Tmp), (19 : Tmp), (20 : Tmp), (21 : Tmp), (22 : Tmp), (23 : Tmp), (24 : Tmp), (25 : Tmp), (26 : Tmp), (27 : Tmp), (28 : Tmp)] by decide)) (by rw [← hA0]; rfl)
      refine drawn_same (by kernel_rfl) (early_spec (by kernel_rfl)) VS (by rw [← hVS]; rfl) HN (fun w' => Below W.heap.size W w') ((Below.refl _ _).drew) ?_ ?_
      · intro i o v L w' ho hv hpre hS K hK
        have hii : i = 0 ∨ i = 1 ∨ i = 2 ∨ i = 3 ∨ i = 4 ∨ i = 5 ∨ i = 6 ∨ i = 7 ∨ i = 8 ∨ i = 9 ∨ i = 10 ∨ i = 11 ∨ i = 12 ∨ i = 13 ∨ i = 14 ∨ i = 15 ∨ i = 16 := by have hq := (Array.getElem?_eq_some_iff.1 ho).1; simp at hq; omega
        rcases hii with rfl | rfl | rfl | rfl | rfl | rfl | rfl | rfl | rfl | rfl | rfl | rfl | rfl | rfl | rfl | rfl | rfl
        · obtain rfl := Option.some.inj ho
          obtain rfl := vs_at hVS hv rfl
          have e7 := E7 L
          refine st_val HF rfl (by simp) rfl (w' := w') ?_ (hK w' hS)
          generalize fill VS L A0 = A at e7 ⊢
          simp [execOp, go_sem, i64_w, e7]
        · obtain rfl := Option.some.inj ho
          obtain rfl := vs_at hVS hv rfl
          have e12 := fill_get HN hVS hT_ (t := 12) (j := 0) rfl rfl (hpre ⟨0, .data⟩ (by simp) rfl)
          refine st_val HF rfl (by simp) rfl (w' := w') ?_ (hK w' hS)
          generalize fill VS L A0 = A at e12 ⊢
          simp [execOp, go_sem, i64_w, e12]
        · obtain rfl := Option.some.inj ho
          obtain rfl := vs_at hVS hv rfl
          have e13 := fill_get HN hVS hT_ (t := 13) (j := 1) rfl rfl (hpre ⟨1, .data⟩ (by simp) rfl)
          refine st_val HF rfl (by simp) rfl (w' := w') ?_ (hK w' hS)
          generalize fill VS L A0 = A at e13 ⊢
          simp [execOp, go_sem, i64_w, e13]
        · obtain rfl := Option.some.inj ho
          obtain rfl := vs_at hVS hv rfl
          have e14 := fill_get HN hVS hT_ (t := 14) (j := 2) rfl rfl (hpre ⟨2, .data⟩ (by simp) rfl)
          have c1 := hrx.out w' hS
          have c2 := hry.out w' hS
          refine st_val HF rfl (by simp) rfl (w' := w') ?_ (hK w' hS)
          generalize fill VS L A0 = A at e14 ⊢
          simp [execOp, go_sem, i64_w, e14, c1, c2]
        · obtain rfl := Option.some.inj ho
          obtain rfl := vs_at hVS hv rfl
          have e4 := E4 L
          have c1 := (hS.cell (p := ⟨w.heap.size + 1, 0, none⟩) (by dsimp only; omega)).trans hp0
          have c2 := (hS.cell (p := ⟨w.heap.size + 1, 1, none⟩) (by dsimp only; omega)).trans hp1
          refine st_val HF rfl (by simp) rfl (w' := w') ?_ (hK w' hS)
          generalize fill VS L A0 = A at e4 ⊢
          simp [execOp, go_sem, i64_w, e4, c1, c2]
        · obtain rfl := Option.some.inj ho
          obtain rfl := vs_at hVS hv rfl
          have e15 := fill_get HN hVS hT_ (t := 15) (j := 3) rfl rfl (hpre ⟨3, .data⟩ (by simp) rfl)
          have e16 := fill_get HN hVS hT_ (t := 16) (j := 4) rfl rfl (hpre ⟨4, .data⟩ (by simp) rfl)
          have e15 := fill_get HN hVS hT_ (t := 15) (j := 3) rfl rfl (hpre ⟨3, .data⟩ (by simp) rfl)
          have e16 := fill_get HN hVS hT_ (t := 16) (j := 4) rfl rfl (hpre ⟨4, .data⟩ (by simp) rfl)
          refine st_val HF rfl (by simp) rfl (w' := w') ?_ (hK w' hS)
          generalize fill VS L A0 = A at e15 e16 ⊢
          simp [execOp, go_sem, e15, e16, run_samePt]
          have hz_ := HQ.out
          simpa [sameP] using hz_
        · obtain rfl := Option.some.inj ho
          obtain rfl := vs_at hVS hv rfl
          have e17 := fill_get HN hVS hT_ (t := 17) (j := 5) rfl rfl (hpre ⟨5, .data⟩ (by simp) rfl)
          refine st_val HF rfl (by simp) rfl (w' := w') ?_ (hK w' hS)
          generalize fill VS L A0 = A at e17 ⊢
          simp [execOp, go_sem, i64_w, e17]
        · obtain rfl := Option.some.inj ho
          obtain rfl := vs_at hVS hv rfl
          have eg := fill_get HN hVS hT_ (t := 18) (j := 6) rfl rfl (hpre ⟨6, .guard⟩ (by simp) rfl)
          have e7 := E7 L
          refine st_val HF rfl (by simp) ((wanted_is rfl rfl eg).trans rfl) (w' := w') ?_ (hK w' hS)
          generalize fill VS L A0 = A at e7 ⊢
          simp [execOp, go_sem, i64_w, e7]
        · obtain rfl := Option.some.inj ho
          obtain rfl := vs_at hVS hv rfl
          have eg := fill_get HN hVS hT_ (t := 18) (j := 6) rfl rfl (hpre ⟨6, .guard⟩ (by simp) rfl)
          have e19 := fill_get HN hVS hT_ (t := 19) (j := 7) rfl rfl (hpre ⟨7, .data⟩ (by simp) rfl)
          refine st_val HF rfl (by simp) ((wanted_is rfl rfl eg).trans rfl) (w' := w') ?_ (hK w' hS)
          generalize fill VS L A0 = A at e19 ⊢
          simp [execOp, go_sem, i64_w, e19]
        · obtain rfl := Option.some.inj ho
          obtain rfl := vs_at hVS hv rfl
          have eg := fill_get HN hVS hT_ (t := 18) (j := 6) rfl rfl (hpre ⟨6, .guard⟩ (by simp) rfl)
          have e20 := fill_get HN hVS hT_ (t := 20) (j := 8) rfl rfl (hpre ⟨8, .data⟩ (by simp) rfl)
          refine st_val HF rfl (by simp) ((wanted_is rfl rfl eg).trans rfl) (w' := w') ?_ (hK w' hS)
          generalize fill VS L A0 = A at e20 ⊢
          simp [execOp, go_sem, i64_w, e20]
        · obtain rfl := Option.some.inj ho
          obtain rfl := vs_at hVS hv rfl
          have eg := fill_get HN hVS hT_ (t := 18) (j := 6) rfl rfl (hpre ⟨6, .guard⟩ (by simp) rfl)
          have e21 := fill_get HN hVS hT_ (t := 21) (j := 9) rfl rfl (hpre ⟨9, .data⟩ (by simp) rfl)
          have c1 := hrn.out w' hS
          refine st_val HF rfl (by simp) ((wanted_is rfl rfl eg).trans rfl) (w' := w') ?_ (hK w' hS)
          generalize fill VS L A0 = A at e21 ⊢
          simp [execOp, go_sem, i64_w, e21, c1]
        · obtain rfl := Option.some.inj ho
          obtain rfl := vs_at hVS hv rfl
          have eg := fill_get HN hVS hT_ (t := 18) (j := 6) rfl rfl (hpre ⟨6, .guard⟩ (by simp) rfl)
          have e22 := fill_get HN hVS hT_ (t := 22) (j := 10) rfl rfl (hpre ⟨10, .data⟩ (by simp) rfl)
          refine st_val HF rfl (by simp) ((wanted_is rfl rfl eg).trans rfl) (w' := w') ?_ (hK w' hS)
          generalize fill VS L A0 = A at e22 ⊢
          simp [execOp, go_sem, i64_w, e22]
        · obtain rfl := Option.some.inj ho
          obtain rfl := vs_at hVS hv rfl
          have eg := fill_get HN hVS hT_ (t := 18) (j := 6) rfl rfl (hpre ⟨6, .guard⟩ (by simp) rfl)
          have e23 := fill_get HN hVS hT_ (t := 23) (j := 11) rfl rfl (hpre ⟨11, .data⟩ (by simp) rfl)
          refine st_val HF rfl (by simp) ((wanted_is rfl rfl eg).trans rfl) (w' := w') ?_ (hK w' hS)
          generalize fill VS L A0 = A at e23 ⊢
          simp [execOp, go_sem, i64_w, e23]
        · obtain rfl := Option.some.inj ho
          obtain rfl := vs_at hVS hv rfl
          have eg := fill_get HN hVS hT_ (t := 18) (j := 6) rfl rfl (hpre ⟨6, .guard⟩ (by simp) rfl)
          have e24 := fill_get HN hVS hT_ (t := 24) (j := 12) rfl rfl (hpre ⟨12, .data⟩ (by simp) rfl)
          have c1 := hnx.out w' hS
          have c2 := hny.out w' hS
          refine st_val HF rfl (by simp) ((wanted_is rfl rfl eg).trans rfl) (w' := w') ?_ (hK w' hS)
          generalize fill VS L A0 = A at e24 ⊢
          simp [execOp, go_sem, i64_w, e24, c1, c2]
        · obtain rfl := Option.some.inj ho
          obtain rfl := vs_at hVS hv rfl
          have eg := fill_get HN hVS hT_ (t := 18) (j := 6) rfl rfl (hpre ⟨6, .guard⟩ (by simp) rfl)
          have e5 := E5 L
          have c1 := (hS.cell (p := ⟨w.heap.size + 2, 0, none⟩) (by dsimp only; omega)).trans hq0
          have c2 := (hS.cell (p := ⟨w.heap.size + 2, 1, none⟩) (by dsimp only; omega)).trans hq1
          refine st_val HF rfl (by simp) ((wanted_is rfl rfl eg).trans rfl) (w' := w') ?_ (hK w' hS)
          generalize fill VS L A0 = A at e5 ⊢
          simp [execOp, go_sem, i64_w, e5, c1, c2]
        · obtain rfl := Option.some.inj ho
          obtain rfl := vs_at hVS hv rfl
          have eg := fill_get HN hVS hT_ (t := 18) (j := 6) rfl rfl (hpre ⟨6, .guard⟩ (by simp) rfl)
          have e25 := fill_get HN hVS hT_ (t := 25) (j := 13) rfl rfl (hpre ⟨13, .data⟩ (by simp) rfl)
          have e26 := fill_get HN hVS hT_ (t := 26) (j := 14) rfl rfl (hpre ⟨14, .data⟩ (by simp) rfl)
          have e25 := fill_get HN hVS hT_ (t := 25) (j := 13) rfl rfl (hpre ⟨13, .data⟩ (by simp) rfl)
          have e26 := fill_get HN hVS hT_ (t := 26) (j := 14) rfl rfl (hpre ⟨14, .data⟩ (by simp) rfl)
          refine st_val HF rfl (by simp) ((wanted_is rfl rfl eg).trans rfl) (w' := w') ?_ (hK w' hS)
          generalize fill VS L A0 = A at e25 e26 ⊢
          simp [execOp, go_sem, e25, e26, run_samePt]
          rfl
        · obtain rfl := Option.some.inj ho
          obtain rfl := vs_at hVS hv rfl
          have e18 := fill_get HN hVS hT_ (t := 18) (j := 6) rfl rfl (hpre ⟨6, .data⟩ (by simp) rfl)
          have e27 := fill_get HN hVS hT_ (t := 27) (j := 15) rfl rfl (hpre ⟨15, .data⟩ (by simp) rfl)
          refine st_val HF rfl (by simp) rfl (w' := w') ?_ (hK w' hS)
          generalize fill VS L A0 = A at e18 e27 ⊢
          simp [execOp, go_sem, i64_w, e18, e27]
      · intro w' hS'
        rw [← hVS, ← hA0]
        simp only [List.size_toArray, List.length_cons, List.length_nil, Nat.reduceAdd, List.replicate, fill, if_true, Act.put, List.setIfInBounds_toArray, List.set_cons_succ, List.set_cons_zero]
        clear HN E4 E5 E7 hVS hA0 hT_
        have HS := Aside0.mk hS'
        have jr := (hS'.cell (p := ⟨w.heap.size + 3, 0, none⟩) (by dsimp only; omega)).trans hr
        have jf := (hS'.frozen (p := ⟨w.heap.size + 3, 0, none⟩) (by dsimp only; omega)).trans hf
        clear hS' hr hf
        cases hz : sameP (nxt l k) q
        · have HZ := Aside0.mk (HN0.out.trans hz)
          clear hz
          gi_wp2
          exact ⟨KeepsFrom.of_below HS.out, HS.out.mono hsW, fun i hi => by
            by_cases e : i = k
            · subst e; exact HZ.out
            · exact HPR.out i (by omega), hb.trans (HS.out.mono hsW)⟩
        · have HZ := Aside0.mk (hasS_yes hk (HN0.out.trans hz))
          clear hz
          gi_wp2
          exact ⟨(KeepsFrom.of_below HS.out).trans ((KeepsOthers.setCell _ _ _).from _), rfl, ⟨World.cell?_setCell_same _ _ _ jr, (hb0.trans ((hb.trans (HS.out.mono hsW)).mono (by omega))).setCell (p := ⟨w.heap.size + 3, 0, none⟩) (by dsimp only; omega) _⟩, HZ.out⟩

end Go.Proofs.Ytgdhgncdpmalcaa.Ring
namespace Go.Proofs.Ytgdhgncdpmalcaa.Ring
open Go.RowKit Go.Shelf Go.Proofs.Ytgdhgncdpmalcaa.Q Go.Proofs.Ytgdhgncdpmalcaa.Drawn Go.Proofs.YtgdhgncdpmalcaaW.PrintWords Go.Proofs.YtgdhgncdpmalcaaW.PrintLast Go.Proofs.YtgdhgncdpmalcaaW.PrintMore
set_option linter.unusedVariables false
set_option linter.unusedSimpArgs false
attribute [local go_sem] Oper.semAt_some

def cntS (l m : List Pt) : Nat → Int
  | 0 => 0
  | j + 1 => if hasS m (nxt l j) (at_ l j) then wrap64 (cntS l m j + 1) else cntS l m j
set_option maxRecDepth 100000 in
set_option maxHeartbeats 4000000 in
theorem common_nn (A0 : Option Addr) (c0 : Nat) (l : List Pt) (A1 : Option Addr) (c1 : Nat) (m : List Pt) (w : World) (hr0 : Kd.C k32 w A0 l.length l) (hc0 : l.length ≤ c0) (hr1 : Kd.C k32 w A1 m.length m) (hc1 : m.length ≤ c1) (h0 : okP l = false) (h1 : okP m = false) :
    Calls Try.prog 31 #[.slice A0 l.length c0, .slice A1 m.length c1] w fun e w' => e = .returned (.int .i64 (-1)) ∧ Below w.heap.size w w' := by
  have HR0 := Aside0.mk hr0
  have HC0 := Aside0.mk hc0
  have HR1 := Aside0.mk hr1
  have HC1 := Aside0.mk hc1
  have HX0 := Aside0.mk h0
  have HX1 := Aside0.mk h1
  clear hr0 hc0 hr1 hc1 h0 h1
  refine (callsIn_wide (n := 0)).1 (callsIn_of_wp Try.func31 rfl trivial ?_ rfl)
  simp only [Try.ntmps31, List.size_toArray, List.length_cons, List.length_nil, Nat.reduceAdd, Nat.reduceSub, Array.replicate_succ, Array.replicate_zero, List.push_toArray, List.append_toArray, List.nil_append, List.cons_append]
  gi_wp2_with (first | ((first | refine ⟨trivial, rfl, ?_⟩ | refine ⟨rfl, ?_⟩ | skip); gi_at_call 52; (with_reducible refine (callsIn_wide.2 (parcel_no A0 c0 l w HR0.out HC0.out HX0.out)).mono ?_); rintro e w1 ⟨rfl, hb⟩; have HB := Aside0.mk (show Below w.heap.size w w1 from hb); clear hb) | ((first | refine ⟨trivial, rfl, ?_⟩ | refine ⟨rfl, ?_⟩ | skip); gi_at_call 52; (with_reducible refine (callsIn_wide.2 (parcel_no A1 c1 m (w1.alloc (.cells #[.pointer none, .int .i64 0] 62)) (Kd.C_below HR1.out (HB.out.alloc HB.out.size _)) HC1.out HX1.out)).mono ?_); rintro e w2 ⟨rfl, hb⟩; have HB2 := Aside0.mk (show Below (w1.heap.size + 1) (w1.alloc (.cells #[.pointer none, .int .i64 0] 62)) w2 from hb.mono (by simp)); clear hb))
  go_ret
  exact ⟨rfl, (HB.out.alloc HB.out.size _).trans (HB2.out.mono (by have := HB.out.size; omega)) |>.alloc (by have := HB.out.size; have := HB2.out.size; simp at this; omega) _⟩
set_option maxRecDepth 100000 in
set_option maxHeartbeats 4000000 in
theorem common_ny (A0 : Option Addr) (c0 : Nat) (l : List Pt) (A1 : Option Addr) (c1 : Nat) (m : List Pt) (w : World) (hr0 : Kd.C k32 w A0 l.length l) (hc0 : l.length ≤ c0) (hr1 : Kd.C k32 w A1 m.length m) (hc1 : m.length ≤ c1) (h0 : okP l = false) (h1 : okP m = true) :
    Calls Try.prog 31 #[.slice A0 l.length c0, .slice A1 m.length c1] w fun e w' => e = .returned (.int .i64 (-1)) ∧ Below w.heap.size w w' := by
  have HR0 := Aside0.mk hr0
  have HC0 := Aside0.mk hc0
  have HR1 := Aside0.mk hr1
  have HC1 := Aside0.mk hc1
  have HX0 := Aside0.mk h0
  have HX1 := Aside0.mk h1
  clear hr0 hc0 hr1 hc1 h0 h1
  refine (callsIn_wide (n := 0)).1 (callsIn_of_wp Try.func31 rfl trivial ?_ rfl)
  simp only [Try.ntmps31, List.size_toArray, List.length_cons, List.length_nil, Nat.reduceAdd, Nat.reduceSub, Array.replicate_succ, Array.replicate_zero, List.push_toArray, List.append_toArray, List.nil_append, List.cons_append]
  gi_wp2_with (first | ((first | refine ⟨trivial, rfl, ?_⟩ | refine ⟨rfl, ?_⟩ | skip); gi_at_call 52; (with_reducible refine (callsIn_wide.2 (parcel_no A0 c0 l w HR0.out HC0.out HX0.out)).mono ?_); rintro e w1 ⟨rfl, hb⟩; have HB := Aside0.mk (show Below w.heap.size w w1 from hb); clear hb) | ((first | refine ⟨trivial, rfl, ?_⟩ | refine ⟨rfl, ?_⟩ | skip); gi_at_call 52; (with_reducible refine (callsIn_wide.2 (parcel_yes A1 c1 m (w1.alloc (.cells #[.pointer none, .int .i64 0] 62)) (Kd.C_below HR1.out (HB.out.alloc HB.out.size _)) HC1.out HX1.out)).mono ?_); rintro e w2 ⟨bs2, rfl, hR, hlo0, hb⟩; have HRB := Aside0.mk hR; clear hR hlo0; have HB2 := Aside0.mk (show Below (w1.heap.size + 1) (w1.alloc (.cells #[.pointer none, .int .i64 0] 62)) w2 from hb.mono (by simp)); clear hb))
  go_ret
  exact ⟨rfl, (HB.out.alloc HB.out.size _).trans (HB2.out.mono (by have := HB.out.size; omega)) |>.alloc (by have := HB.out.size; have := HB2.out.size; simp at this; omega) _⟩
set_option maxRecDepth 100000 in
set_option maxHeartbeats 4000000 in
theorem common_yn (A0 : Option Addr) (c0 : Nat) (l : List Pt) (A1 : Option Addr) (c1 : Nat) (m : List Pt) (w : World) (hr0 : Kd.C k32 w A0 l.length l) (hc0 : l.length ≤ c0) (hr1 : Kd.C k32 w A1 m.length m) (hc1 : m.length ≤ c1) (h0 : okP l = true) (h1 : okP m = false) :
    Calls Try.prog 31 #[.slice A0 l.length c0, .slice A1 m.length c1] w fun e w' => e = .returned (.int .i64 (-1)) ∧ Below w.heap.size w w' := by
  have HR0 := Aside0.mk hr0
  have HC0 := Aside0.mk hc0
  have HR1 := Aside0.mk hr1
  have HC1 := Aside0.mk hc1
  have HX0 := Aside0.mk h0
  have HX1 := Aside0.mk h1
  clear hr0 hc0 hr1 hc1 h0 h1
  refine (callsIn_wide (n := 0)).1 (callsIn_of_wp Try.func31 rfl trivial ?_ rfl)
  simp only [Try.ntmps31, List.size_toArray, List.length_cons, List.length_nil, Nat.reduceAdd, Nat.reduceSub, Array.replicate_succ, Array.replicate_zero, List.push_toArray, List.append_toArray, List.nil_append, List.cons_append]
  gi_wp2_with (first | ((first | refine ⟨trivial, rfl, ?_⟩ | refine ⟨rfl, ?_⟩ | skip); gi_at_call 52; (with_reducible refine (callsIn_wide.2 (parcel_yes A0 c0 l w HR0.out HC0.out HX0.out)).mono ?_); rintro e w1 ⟨bs, rfl, hR, hlo0, hb⟩; have HR := Aside0.mk hR; clear hR hlo0; have HB := Aside0.mk (show Below w.heap.size w w1 from hb); clear hb) | ((first | refine ⟨trivial, rfl, ?_⟩ | refine ⟨rfl, ?_⟩ | skip); gi_at_call 52; (with_reducible refine (callsIn_wide.2 (parcel_no A1 c1 m (w1.alloc (.cells #[.pointer (some ⟨bs 0, 0, none⟩), .int .i64 l.length] 62)) (Kd.C_below HR1.out (HB.out.alloc HB.out.size _)) HC1.out HX1.out)).mono ?_); rintro e w2 ⟨rfl, hb⟩; have HB2 := Aside0.mk (show Below (w1.heap.size + 1) (w1.alloc (.cells #[.pointer (some ⟨bs 0, 0, none⟩), .int .i64 l.length] 62)) w2 from hb.mono (by simp)); clear hb))
  go_ret
  exact ⟨rfl, (HB.out.alloc HB.out.size _).trans (HB2.out.mono (by have := HB.out.size; omega)) |>.alloc (by have := HB.out.size; have := HB2.out.size; simp at this; omega) _⟩
set_option maxRecDepth 100000 in
set_option maxHeartbeats 4000000 in
theorem common_yy (A0 : Option Addr) (c0 : Nat) (l : List Pt) (A1 : Option Addr) (c1 : Nat) (m : List Pt) (w : World) (hr0 : Kd.C k32 w A0 l.length l) (hc0 : l.length ≤ c0) (hr1 : Kd.C k32 w A1 m.length m) (hc1 : m.length ≤ c1) (h0 : okP l = true) (h1 : okP m = true) :
    Calls Try.prog 31 #[.slice A0 l.length c0, .slice A1 m.length c1] w fun e w' => e = .returned (.int .i64 (cntS l m l.length)) ∧ Below w.heap.size w w' := by
  have HR0 := Aside0.mk hr0
  have HC0 := Aside0.mk hc0
  have HR1 := Aside0.mk hr1
  have HC1 := Aside0.mk hc1
  have HX0 := Aside0.mk h0
  have HX1 := Aside0.mk h1
  clear hr0 hc0 hr1 hc1 h0 h1
  refine (callsIn_wide (n := 0)).1 (callsIn_of_wp_marks Try.func31 rfl trivial ?_ rfl)
  simp only [Try.ntmps31, List.size_toArray, List.length_cons, List.length_nil, Nat.reduceAdd, Nat.reduceSub, Array.replicate_succ, Array.replicate_zero, List.push_toArray, List.append_toArray, List.nil_append, List.cons_append]
  gi_wp2_with (first | ((first | refine ⟨trivial, rfl, ?_⟩ | refine ⟨rfl, ?_⟩ | skip); gi_at_call 52; (with_reducible refine (callsIn_wide.2 (parcel_yes A0 c0 l w HR0.out HC0.out HX0.out)).mono ?_); rintro e w1 ⟨bs, rfl, hR, hlo0, hb⟩; have HR := Aside0.mk hR; clear hR hlo0; have HB := Aside0.mk (show Below w.heap.size w w1 from hb); clear hb) | (((first | refine ⟨trivial, rfl, ?_⟩ | refine ⟨rfl, ?_⟩ | skip); gi_at_call 52; (with_reducible refine (callsIn_wide.2 (parcel_yes A1 c1 m (w1.alloc (.cells #[.pointer (some ⟨bs 0, 0, none⟩), .int .i64 l.length] 62)) (Kd.C_below HR1.out (HB.out.alloc HB.out.size _)) HC1.out HX1.out)).mono ?_); rintro e w2 ⟨bs2, rfl, hR, hlo0, hb⟩; have HRB := Aside0.mk hR; clear hR hlo0; have HB2 := Aside0.mk (show Below (w1.heap.size + 1) (w1.alloc (.cells #[.pointer (some ⟨bs 0, 0, none⟩), .int .i64 l.length] 62)) w2 from hb.mono (by simp)); clear hb); have hz1 : w.heap.size ≤ w1.heap.size := HB.out.size; have hz3 : w1.heap.size < w2.heap.size := (by have := HB2.out.size; simp at this; omega); have hz5 : ¬ w1.heap.size = w2.heap.size := (by omega); have hz7 : ¬ w2.heap.size = w1.heap.size := (by omega); have q0 := (at_new HB2.out 0).1; have q1 := (at_new HB2.out 1).1; simp [go_sem] at q0 q1))
  obtain ⟨W0, hW0⟩ : ∃ W0, (w2.alloc (.cells #[.pointer (some ⟨bs2 0, 0, none⟩), .int .i64 m.length] 62)).alloc (.cells #[.int .i64 0] 3) = W0 := ⟨_, rfl⟩
  have hs : W0.heap.size = w2.heap.size + 2 := by rw [← hW0]; simp
  have hc0 : W0.cell? ⟨w2.heap.size + 1, 0, none⟩ = some (.int .i64 0) := by rw [← hW0]; simp [go_sem]
  have hf0 : W0.frozen? ⟨w2.heap.size + 1, 0, none⟩ = false := by rw [← hW0]; simp [go_sem]
  have hqa : W0.cell? ⟨w2.heap.size, 0, none⟩ = some (.pointer (some ⟨bs2 0, 0, none⟩)) := by rw [← hW0]; simp [go_sem]
  have hqb : W0.cell? ⟨w2.heap.size, 1, none⟩ = some (.int .i64 m.length) := by rw [← hW0]; simp [go_sem]
  have hb2 : Below w2.heap.size w2 W0 := by rw [← hW0]; exact ((Below.refl _ w2).alloc (Nat.le_refl _) _).alloc (by simp) _
  have hb1 : Below w1.heap.size w1 W0 := (((Below.refl _ w1).alloc (Nat.le_refl _) _).trans (HB2.out.mono (by omega))).trans (hb2.mono (by omega))
  have hb0 : Below w.heap.size w W0 := HB.out.trans (hb1.mono hz1)
  have HRA0 := Aside0.mk ((HR.out.below hb1).mono (show w1.heap.size ≤ w2.heap.size + 1 by omega))
  have HRB0 := Aside0.mk ((HRB.out.below hb2).mono (show w2.heap.size ≤ w2.heap.size + 1 by omega))
  rw [hW0]
  clear hW0 q0 q1 hb1 hb2 HB2
  refine range_ring (w2.heap.size + 1) bs l HRA0.out (by omega) rfl
    (fun j W => (W.cell? ⟨w2.heap.size + 1, 0, none⟩ = some (.int .i64 (cntS l m j)) ∧ W.frozen? ⟨w2.heap.size + 1, 0, none⟩ = false) ∧ Below (w2.heap.size + 1) W0 W)
    (fun _ _ => False)
    (OwnFrom.and (Own.from (fun s A B row hs hg hr => ⟨cell_kept hs.1 hg hr, (frozen_kept hs.1 hg hr).trans hs.2⟩) _) (ownFrom_below (by omega) (by omega)))
    (fun _ _ _ _ h _ _ => h.elim) ⟨⟨hc0, hf0⟩, Below.refl _ _⟩ ?a1 ?assign ?body ?done ?stop
  case assign =>
    intro r k W K hK
    gi_wp2
    exact hK
  case done =>
    rintro D W hD ⟨⟨hc, hf⟩, hb⟩ hK
    gi_wp2
    refine ⟨by simp, .inl ⟨_, _, rfl, run_takeDeferred hK, ?_⟩⟩
    exact ⟨_, results_tmp rfl _ _ _, rfl, (hb0.trans (hb.mono (by omega))).trans (belowK_b (w := W0) (by omega) _ _ _ _ hD hK rfl rfl)⟩
  case stop =>
    rintro D c W hD h
    exact h.elim
  case body =>
    rintro r k W hk ⟨⟨hc, hf⟩, hb⟩ hbt
    have HF := wide_round Try.prog r
    have hsW := hb.size
    have hRW0 := (HRA0.out.below hb).mono (show w2.heap.size + 1 ≤ W.heap.size by omega)
    have HRB3 := (HRB0.out.below hb).mono (show w2.heap.size + 1 ≤ W.heap.size by omega)
    have hRW := hRW0
    have hkp := hRW.pos
    have hrx := Aside0.mk (fun w' (h : Below W.heap.size W w') => (hRW.below h).x k hk)
    have hry := Aside0.mk (fun w' (h : Below W.heap.size W w') => (hRW.below h).y k hk)
    have hrn := Aside0.mk (fun w' (h : Below W.heap.size W w') => (hRW.below h).next k hk)
    have hnk : (k + 1) % l.length < l.length := Nat.mod_lt _ (by omega)
    have hnx := Aside0.mk (fun w' (h : Below W.heap.size W w') => (show w'.cell? ⟨bs ((k + 1) % l.length), 0, none⟩ = some (.int .i64 (nxt l k).f0) from (hRW.below h).x _ hnk))
    have hny := Aside0.mk (fun w' (h : Below W.heap.size W w') => (show w'.cell? ⟨bs ((k + 1) % l.length), 1, none⟩ = some (.int .i64 (nxt l k).f1) from (hRW.below h).y _ hnk))
    clear hRW
    have q0 := (hb.cell (p := ⟨w2.heap.size, 0, none⟩) (by dsimp only; omega)).trans hqa
    have q1 := (hb.cell (p := ⟨w2.heap.size, 1, none⟩) (by dsimp only; omega)).trans hqb
    gi_wp2
    obtain ⟨VS, hVS⟩ : ∃ VS : List (Option Tmp × Value), [(some 31, .agg #[.pointer (some ⟨bs2 0, 0, none⟩), .int .i64 m.length]), (some 32, .pointer (some ⟨bs k, 0, none⟩)), (some 33, .pointer (some ⟨bs k, 0, none⟩)), (some 34, .pointer (some ⟨bs k, 2, none⟩)), (some 35, .pointer (some ⟨bs ((k + 1) % l.length), 0, none⟩)), (some 36, .pointer (some ⟨bs ((k + 1) % l.length), 0, none⟩)), (some 37, .pointer (some ⟨bs ((k + 1) % l.length), 0, none⟩)), (some 38, .agg #[.int .i64 (nxt l k).f0, .int .i64 (nxt l k).f1]), (some 39, .pointer (some ⟨bs k, 0, none⟩)), (some 40, .pointer (some ⟨bs k, 0, none⟩)), (some 41, .pointer (some ⟨bs k, 0, none⟩)), (some 42, .agg #[.int .i64 (at_ l k).f0, .int .i64 (at_ l k).f1]), (some 43, .bool (hasS m (nxt l k) (at_ l k)))] = VS := ⟨_, rfl⟩
    have HN : (VS.filterMap (·.1)).Nodup := by rw [← hVS]; exact (show List.Nodup [(31 : Tmp), (32 : Tmp), (33 : Tmp), (34 : Tmp), (35 : Tmp), (36 : Tmp), (37 : Tmp), (38 : Tmp), (39 : Tmp), (40 : Tmp), (41 : Tmp), (42 : Tmp), (43 : Tmp)] by decide)
    refine act_name fun A0 hA0 => ?_
    have E7 : ∀ L : List Bool, (fill VS L A0).tmps[7]?.getD undef = .pointer (some ⟨w2.heap.size, 0, none⟩) := fun L => fill_old _ _ _ (by rw [← hVS]; exact (show (7 : Tmp) ∉ [(31 : Tmp), (32 : Tmp), (33 : Tmp), (34 : Tmp), (35 : Tmp), (36 : Tmp), (37 : Tmp), (38 : Tmp), (39 : Tmp), (40 : Tmp), (41 : Tmp), (42 : Tmp), (43 : Tmp)] by decide)) (by rw [← hA0]; rfl)
    have E10 : ∀ L : List Bool, (fill VS L A0).tmps[10]?.getD undef = .pointer (some ⟨bs k, 0, none⟩) := fun L => fill_old _ _ _ (by rw [← hVS]; exact (show (10 : Tmp) ∉ [(31 : Tmp), (32 : Tmp), (33 : Tmp), (34 : Tmp), (35 : Tmp), (36 : Tmp), (37 : Tmp), (38 : Tmp), (39 : Tmp), (40 : Tmp), (41 : Tmp), (42 : Tmp), (43 : Tmp)] by decide)) (by rw [← hA0]; rfl)
    have hT_ : 43 < A0.tmps.size := by rw [← hA0]; simp
    refine drawn_same (by kernel_rfl) (early_spec (by kernel_rfl)) VS (by rw [← hVS]; rfl) HN (fun w' => Below W.heap.size W w') ((Below.refl _ _).drew) ?_ ?_
    · intro i o v L w' ho hv hpre hS K hK
      have hii : i = 0 ∨ i = 1 ∨ i = 2 ∨ i = 3 ∨ i = 4 ∨ i = 5 ∨ i = 6 ∨ i = 7 ∨ i = 8 ∨ i = 9 ∨ i = 10 ∨ i = 11 ∨ i = 12 := by have hq := (Array.getElem?_eq_some_iff.1 ho).1; simp at hq; omega
      rcases hii with rfl | rfl | rfl | rfl | rfl | rfl | rfl | rfl | rfl | rfl | rfl | rfl | rfl
      · obtain rfl := Option.some.inj ho
        obtain rfl := vs_at hVS hv rfl
        have e7 := E7 L
        have c1 := (hS.cell (p := ⟨w2.heap.size, 0, none⟩) (by dsimp only; omega)).trans q0
        have c2 := (hS.cell (p := ⟨w2.heap.size, 1, none⟩) (by dsimp only; omega)).trans q1
        refine st_val HF rfl (by simp) rfl (w' := w') ?_ (hK w' hS)
        generalize fill VS L A0 = A at e7 ⊢
        simp [execOp, go_sem, i64_w, e7, c1, c2]
      · obtain rfl := Option.some.inj ho
        obtain rfl := vs_at hVS hv rfl
        have e10 := E10 L
        refine st_val HF rfl (by simp) rfl (w' := w') ?_ (hK w' hS)
        generalize fill VS L A0 = A at e10 ⊢
        simp [execOp, go_sem, i64_w, e10]
      · obtain rfl := Option.some.inj ho
        obtain rfl := vs_at hVS hv rfl
        have e32 := fill_get HN hVS hT_ (t := 32) (j := 1) rfl rfl (hpre ⟨1, .data⟩ (by simp) rfl)
        refine st_val HF rfl (by simp) rfl (w' := w') ?_ (hK w' hS)
        generalize fill VS L A0 = A at e32 ⊢
        simp [execOp, go_sem, i64_w, e32]
      · obtain rfl := Option.some.inj ho
        obtain rfl := vs_at hVS hv rfl
        have e33 := fill_get HN hVS hT_ (t := 33) (j := 2) rfl rfl (hpre ⟨2, .data⟩ (by simp) rfl)
        refine st_val HF rfl (by simp) rfl (w' := w') ?_ (hK w' hS)
        generalize fill VS L A0 = A at e33 ⊢
        simp [execOp, go_sem, i64_w, e33]
      · obtain rfl := Option.some.inj ho
        obtain rfl := vs_at hVS hv rfl
        have e34 := fill_get HN hVS hT_ (t := 34) (j := 3) rfl rfl (hpre ⟨3, .data⟩ (by simp) rfl)
        have c1 := hrn.out w' hS
        refine st_val HF rfl (by simp) rfl (w' := w') ?_ (hK w' hS)
        generalize fill VS L A0 = A at e34 ⊢
        simp [execOp, go_sem, i64_w, e34, c1]
      · obtain rfl := Option.some.inj ho
        obtain rfl := vs_at hVS hv rfl
        have e35 := fill_get HN hVS hT_ (t := 35) (j := 4) rfl rfl (hpre ⟨4, .data⟩ (by simp) rfl)
        refine st_val HF rfl (by simp) rfl (w' := w') ?_ (hK w' hS)
        generalize fill VS L A0 = A at e35 ⊢
        simp [execOp, go_sem, i64_w, e35]
      · obtain rfl := Option.some.inj ho
        obtain rfl := vs_at hVS hv rfl
        have e36 := fill_get HN hVS hT_ (t := 36) (j := 5) rfl rfl (hpre ⟨5, .data⟩ (by simp) rfl)
        refine st_val HF rfl (by simp) rfl (w' := w') ?_ (hK w' hS)
        generalize fill VS L A0 = A at e36 ⊢
        simp [execOp, go_sem, i64_w, e36]
      · obtain rfl := Option.some.inj ho
        obtain rfl := vs_at hVS hv rfl
        have e37 := fill_get HN hVS hT_ (t := 37) (j := 6) rfl rfl (hpre ⟨6, .data⟩ (by simp) rfl)
        have c1 := hnx.out w' hS
        have c2 := hny.out w' hS
        refine st_val HF rfl (by simp) rfl (w' := w') ?_ (hK w' hS)
        generalize fill VS L A0 = A at e37 ⊢
        simp [execOp, go_sem, i64_w, e37, c1, c2]
      · obtain rfl := Option.some.inj ho
        obtain rfl := vs_at hVS hv rfl
        have e10 := E10 L
        refine st_val HF rfl (by simp) rfl (w' := w') ?_ (hK w' hS)
        generalize fill VS L A0 = A at e10 ⊢
        simp [execOp, go_sem, i64_w, e10]
      · obtain rfl := Option.some.inj ho
        obtain rfl := vs_at hVS hv rfl
        have e39 := fill_get HN hVS hT_ (t := 39) (j := 8) rfl rfl (hpre ⟨8, .data⟩ (by simp) rfl)
        refine st_val HF rfl (by simp) rfl (w' := w') ?_ (hK w' hS)
        generalize fill VS L A0 = A at e39 ⊢
        simp [execOp, go_sem, i64_w, e39]
      · obtain rfl := Option.some.inj ho
        obtain rfl := vs_at hVS hv rfl
        have e40 := fill_get HN hVS hT_ (t := 40) (j := 9) rfl rfl (hpre ⟨9, .data⟩ (by simp) rfl)
        refine st_val HF rfl (by simp) rfl (w' := w') ?_ (hK w' hS)
        generalize fill VS L A0 = A at e40 ⊢
        simp [execOp, go_sem, i64_w, e40]
      · obtain rfl := Option.some.inj ho
        obtain rfl := vs_at hVS hv rfl
        have e41 := fill_get HN hVS hT_ (t := 41) (j := 10) rfl rfl (hpre ⟨10, .data⟩ (by simp) rfl)
        have c1 := hrx.out w' hS
        have c2 := hry.out w' hS
        refine st_val HF rfl (by simp) rfl (w' := w') ?_ (hK w' hS)
        generalize fill VS L A0 = A at e41 ⊢
        simp [execOp, go_sem, i64_w, e41, c1, c2]
      · obtain rfl := Option.some.inj ho
        obtain rfl := vs_at hVS hv rfl
        have e31 := fill_get HN hVS hT_ (t := 31) (j := 0) rfl rfl (hpre ⟨0, .data⟩ (by simp) rfl)
        have e38 := fill_get HN hVS hT_ (t := 38) (j := 7) rfl rfl (hpre ⟨7, .data⟩ (by simp) rfl)
        have e42 := fill_get HN hVS hT_ (t := 42) (j := 11) rfl rfl (hpre ⟨11, .data⟩ (by simp) rfl)
        refine st_call HF rfl (by simp) rfl (w := w') (f := 66) (args := #[.agg #[.pointer (some ⟨bs2 0, 0, none⟩), .int .i64 m.length], .agg #[.int .i64 (nxt l k).f0, .int .i64 (nxt l k).f1], .agg #[.int .i64 (at_ l k).f0, .int .i64 (at_ l k).f1]]) (v := .bool (hasS m (nxt l k) (at_ l k))) ?_ ?_
        · generalize fill VS L A0 = A at e31 e38 e42 ⊢
          simp [execOp, resolve, go_sem, e31, e38, e42]
        · refine (hasSide_calls W.heap.size bs2 m (nxt l k) (at_ l k) w' (HRB3.below hS) hS.size).mono ?_; rintro e w3 ⟨rfl, hb2⟩; exact ⟨rfl, hK w3 (hS.trans (hb2.mono hS.size))⟩
    · intro w' hS'
      rw [← hVS, ← hA0]
      simp only [List.size_toArray, List.length_cons, List.length_nil, Nat.reduceAdd, List.replicate, fill, if_true, Act.put, List.setIfInBounds_toArray, List.set_cons_succ, List.set_cons_zero]
      clear HN E7 E10 hVS hA0 hT_
      have jc := (hS'.cell (p := ⟨w2.heap.size + 1, 0, none⟩) (by dsimp only; omega)).trans hc
      have jf := (hS'.frozen (p := ⟨w2.heap.size + 1, 0, none⟩) (by dsimp only; omega)).trans hf
      have HS := Aside0.mk hS'
      clear hS' hc hf
      have hst : cntS l m (k + 1) = if hasS m (nxt l k) (at_ l k) then wrap64 (cntS l m k + 1) else cntS l m k := rfl
      cases hq : hasS m (nxt l k) (at_ l k)
      · rw [hq] at hst
        have HT := Aside0.mk hst
        clear hst hq
        gi_wp2
        exact ⟨KeepsFrom.of_below HS.out, HS.out.mono (by omega), ⟨by rw [HT.out]; exact jc, jf⟩, hb.trans (HS.out.mono (by omega))⟩
      · rw [hq] at hst
        have HT := Aside0.mk hst
        clear hst hq
        gi_wp2
        exact ⟨(KeepsFrom.of_below HS.out).trans ((KeepsOthers.setCell _ _ _).from _), (show Below (w2.heap.size + 1) W w' from HS.out.mono (by omega)).setCell (p := ⟨w2.heap.size + 1, 0, none⟩) (Nat.le_refl _) _, ⟨by rw [HT.out]; exact World.cell?_setCell_same _ _ _ jc, by rw [World.frozen?_setCell]; exact jf⟩, (hb.trans (show Below (w2.heap.size + 1) W w' from HS.out.mono (by omega))).setCell (p := ⟨w2.heap.size + 1, 0, none⟩) (Nat.le_refl _) _⟩

end Go.Proofs.Ytgdhgncdpmalcaa.Ring
namespace Go.Proofs.Ytgdhgncdpmalcaa.Q
open Go.RowKit Go.Proofs.YtgdhgncdpmalcaaW.PrintWords Go.Proofs.YtgdhgncdpmalcaaW.PrintLast Go.Proofs.YtgdhgncdpmalcaaW.PrintMore
attribute [local go_sem] max2_int min2_int max_two min_two max_three min_three max_four min_four   -- for this text's walks alone
set_option linter.unusedVariables false
set_option linter.unusedSimpArgs false

/-! ### impl_ParcelCommon: function 31 -/
def impl_ParcelCommon.f (l0 : List (S32)) (l1 : List (S32)) : Option (Int) := if Go.Proofs.Ytgdhgncdpmalcaa.Ring.okP l0 && Go.Proofs.Ytgdhgncdpmalcaa.Ring.okP l1 then some (Go.Proofs.Ytgdhgncdpmalcaa.Ring.cntS l0 l1 l0.length) else some (-1)
theorem impl_ParcelCommon.calls (A0 : Option Addr) (c0 : Nat) (l0 : List (S32)) (A1 : Option Addr) (c1 : Nat) (l1 : List (S32)) (r : Int) (w : World) (hr0 : Kd.C k32 w A0 l0.length l0) (hc0 : l0.length ≤ c0) (hr1 : Kd.C k32 w A1 l1.length l1) (hc1 : l1.length ≤ c1) (h : impl_ParcelCommon.f l0 l1 = some r) :
    Calls Try.prog 31 #[.slice A0 l0.length c0, .slice A1 l1.length c1] w fun e w' => e = .returned (.int .i64 r) ∧ Below w.heap.size w w' := by
  unfold impl_ParcelCommon.f at h
  cases c : Go.Proofs.Ytgdhgncdpmalcaa.Ring.okP l0 <;> cases d : Go.Proofs.Ytgdhgncdpmalcaa.Ring.okP l1 <;> simp only [c, d, Bool.true_and, Bool.false_and, if_true, Bool.false_eq_true, if_false] at h <;> obtain rfl := Option.some.inj h
  · exact Go.Proofs.Ytgdhgncdpmalcaa.Ring.common_nn A0 c0 l0 A1 c1 l1 w hr0 hc0 hr1 hc1 c d
  · exact Go.Proofs.Ytgdhgncdpmalcaa.Ring.common_ny A0 c0 l0 A1 c1 l1 w hr0 hc0 hr1 hc1 c d
  · exact Go.Proofs.Ytgdhgncdpmalcaa.Ring.common_yn A0 c0 l0 A1 c1 l1 w hr0 hc0 hr1 hc1 c d
  · exact Go.Proofs.Ytgdhgncdpmalcaa.Ring.common_yy A0 c0 l0 A1 c1 l1 w hr0 hc0 hr1 hc1 c d

end Go.Proofs.Ytgdhgncdpmalcaa.Q
namespace Go.Proofs.Ytgdhgncdpmalcaa.Q
open Go.RowKit Go.Proofs.YtgdhgncdpmalcaaW.PrintWords Go.Proofs.YtgdhgncdpmalcaaW.PrintLast Go.Proofs.YtgdhgncdpmalcaaW.PrintMore
attribute [local go_sem] max2_int min2_int max_two min_two max_three min_three max_four min_four   -- for this text's walks alone
set_option linter.unusedVariables false
set_option linter.unusedSimpArgs false

attribute [local go_sem high] eqA32
/-! ### spec_ParcelCommon: function 32 -/
mutual
def spec_ParcelCommon.j0 : Nat → List (S32) → List (S32) → Bool → Option (Int)
  | 0, _, _, _ => none
  | k + 1, x0, x1, x15 => if x15 = true then (some (-1)) else (spec_ParcelCommon.l0 k x0 x1 0 0)
def spec_ParcelCommon.l0 : Nat → List (S32) → List (S32) → Int → Int → Option (Int)
  | 0, _, _, _, _ => none
  | k + 1, x0, x1, x5, x6 => if x6 < (x0.length : Int) then (spec_ParcelCommon.l1 k x0 x1 x5 x6 0) else (some x5)
def spec_ParcelCommon.l1 : Nat → List (S32) → List (S32) → Int → Int → Int → Option (Int)
  | 0, _, _, _, _, _ => none
  | k + 1, x0, x1, x5, x6, x7 => if x7 < (x1.length : Int) then (if 0 ≤ x6 then (if x6 < (x0.length : Int) then (if (x1.length : Int) = 0 then (none) else (if 0 ≤ (Int.tmod (wrap64 (x7 + 1)) (x1.length : Int)) then (if (Int.tmod (wrap64 (x7 + 1)) (x1.length : Int)) < (x1.length : Int) then (if (((rd_T32 x0 x6).f0) == ((rd_T32 x1 (Int.tmod (wrap64 (x7 + 1)) (x1.length : Int))).f0) && (((rd_T32 x0 x6).f1) == ((rd_T32 x1 (Int.tmod (wrap64 (x7 + 1)) (x1.length : Int))).f1))) = true then (if (x0.length : Int) = 0 then (none) else (if 0 ≤ (Int.tmod (wrap64 (x6 + 1)) (x0.length : Int)) then (if (Int.tmod (wrap64 (x6 + 1)) (x0.length : Int)) < (x0.length : Int) then (if 0 ≤ x7 then (if (((rd_T32 x0 (Int.tmod (wrap64 (x6 + 1)) (x0.length : Int))).f0) == ((rd_T32 x1 x7).f0) && (((rd_T32 x0 (Int.tmod (wrap64 (x6 + 1)) (x0.length : Int))).f1) == ((rd_T32 x1 x7).f1))) = true then (spec_ParcelCommon.l1 k x0 x1 (wrap64 (x5 + 1)) x6 (wrap64 (x7 + 1))) else (spec_ParcelCommon.l1 k x0 x1 x5 x6 (wrap64 (x7 + 1)))) else (none)) else (none)) else (none))) else (spec_ParcelCommon.l1 k x0 x1 x5 x6 (wrap64 (x7 + 1)))) else (none)) else (none))) else (none)) else (none)) else (spec_ParcelCommon.l0 k x0 x1 x5 (wrap64 (x6 + 1)))
end
def spec_ParcelCommon.f (k : Nat) (l0 : List (S32)) (l1 : List (S32)) : Option (Int) := (spec_ParcelValid.f k l0).bind fun t624 => (if t624 = true then ((spec_ParcelValid.f k l1).bind fun t625 => (spec_ParcelCommon.j0 k l0 l1 (!t625))) else (spec_ParcelCommon.j0 k l0 l1 true))
set_option maxHeartbeats 8000000 in
set_option maxRecDepth 100000 in
theorem spec_ParcelCommon.calls (k : Nat) (A0 : Option Addr) (c0 : Nat) (l0 : List (S32)) (A1 : Option Addr) (c1 : Nat) (l1 : List (S32)) (r : Int) (w : World) (hr0 : Kd.C k32 w A0 l0.length l0) (hc0 : l0.length ≤ c0) (hr1 : Kd.C k32 w A1 l1.length l1) (hc1 : l1.length ≤ c1) (h : spec_ParcelCommon.f k l0 l1 = some r) :
    Calls Try.prog 32 #[.slice A0 l0.length c0, .slice A1 l1.length c1] w fun e w' => e = .returned (.int .i64 r) ∧ Below w.heap.size w w' := by
  have hu32 := Try.underlying32
  have HR0 := Aside0.mk hr0
  have HC0 := Aside0.mk hc0
  clear hr0 hc0
  have HR1 := Aside0.mk hr1
  have HC1 := Aside0.mk hc1
  clear hr1 hc1
  have HB := Aside0.mk (Below.refl w.heap.size w)
  have H : ((spec_ParcelValid.f k l0).bind fun t624 => (if t624 = true then ((spec_ParcelValid.f k l1).bind fun t625 => (spec_ParcelCommon.j0 k l0 l1 (!t625))) else (spec_ParcelCommon.j0 k l0 l1 true))) = some r := h
  clear h
  have HC3 := Aside0.mk H
  clear H
  go_enter Try.func32, Try.ntmps32
  go_upto_region 1 with (fail)
  repeat (go_quiet (fail); go_upto_region 1 with (fail))
  go_cut [15] (fun v15 wc => ∃ (kq : Nat) (x15_2 : Bool), v15 = .bool x15_2 ∧ Aside0 (spec_ParcelCommon.j0 kq l0 l1 x15_2 = some r) ∧ Aside0 (kq ≤ k) ∧ Aside0 (Below w.heap.size w wc))
  case first =>
    have H := HC3.out
    clear HC3
    replace H := Option.bind_eq_some_iff.mp H
    obtain ⟨t624, A40, H⟩ := H
    replace H : (if t624 = true then ((spec_ParcelValid.f k l1).bind fun t625 => (spec_ParcelCommon.j0 k l0 l1 (!t625))) else (spec_ParcelCommon.j0 k l0 l1 true)) = some r := H
    have A4 := Aside0.mk A40
    clear A40
    by_cases c5 : t624 = true
    · subst c5
      have H1 : ((spec_ParcelValid.f k l1).bind fun t625 => (spec_ParcelCommon.j0 k l0 l1 (!t625))) = some r := by rw [if_pos rfl] at H; exact H
      clear H
      have H := H1
      clear H1
      replace H := Option.bind_eq_some_iff.mp H
      obtain ⟨t625, A60, H⟩ := H
      replace H : (spec_ParcelCommon.j0 k l0 l1 (!t625)) = some r := H
      have A6 := Aside0.mk A60
      clear A60
      have H' := Aside0.mk H
      clear H
      go_wp2_with (first | (go_at_call 22; (with_reducible refine (spec_ParcelValid.calls k _ _ l0 true _ ?side1 ?side2 A4.out).mono ?_); (case side1 => repeat (first | exact (Kd.C_below HR0.out HB.out) | (with_reducible refine Kd.C_alloc ?_ _) | (with_reducible refine Kd.C_drewN ?_ _) | (with_reducible refine Kd.C_drew ?_))); (case side2 => exact HC0.out); rintro e w7 ⟨rfl, hb⟩; have n0_ := Aside0.mk (below_step (by repeat (first | (with_reducible first | exact HB.out | apply below_alloc | apply pw_below_drewN | apply below_drew1) | exact HB.out)) hb); clear HB; have HB := n0_; clear n0_; (try clear hb); (try clear hb2); (try clear hk); (try clear hi)) | (go_at_call 22; (with_reducible refine (spec_ParcelValid.calls k _ _ l1 t625 _ ?side1 ?side2 A6.out).mono ?_); (case side1 => repeat (first | exact (Kd.C_below HR1.out HB.out) | (with_reducible refine Kd.C_alloc ?_ _) | (with_reducible refine Kd.C_drewN ?_ _) | (with_reducible refine Kd.C_drew ?_))); (case side2 => exact HC1.out); rintro e w8 ⟨rfl, hb⟩; have n0_ := Aside0.mk (below_step (by repeat (first | (with_reducible first | exact HB.out | apply below_alloc | apply pw_below_drewN | apply below_drew1) | exact HB.out)) hb); clear HB; have HB := n0_; clear n0_; (try clear hb); (try clear hb2); (try clear hk); (try clear hi)))
      repeat (go_quiet (first | (go_at_call 22; (with_reducible refine (spec_ParcelValid.calls k _ _ l0 true _ ?side1 ?side2 A4.out).mono ?_); (case side1 => repeat (first | exact (Kd.C_below HR0.out HB.out) | (with_reducible refine Kd.C_alloc ?_ _) | (with_reducible refine Kd.C_drewN ?_ _) | (with_reducible refine Kd.C_drew ?_))); (case side2 => exact HC0.out); rintro e w7 ⟨rfl, hb⟩; have n0_ := Aside0.mk (below_step (by repeat (first | (with_reducible first | exact HB.out | apply below_alloc | apply pw_below_drewN | apply below_drew1) | exact HB.out)) hb); clear HB; have HB := n0_; clear n0_; (try clear hb); (try clear hb2); (try clear hk); (try clear hi)) | (go_at_call 22; (with_reducible refine (spec_ParcelValid.calls k _ _ l1 t625 _ ?side1 ?side2 A6.out).mono ?_); (case side1 => repeat (first | exact (Kd.C_below HR1.out HB.out) | (with_reducible refine Kd.C_alloc ?_ _) | (with_reducible refine Kd.C_drewN ?_ _) | (with_reducible refine Kd.C_drew ?_))); (case side2 => exact HC1.out); rintro e w8 ⟨rfl, hb⟩; have n0_ := Aside0.mk (below_step (by repeat (first | (with_reducible first | exact HB.out | apply below_alloc | apply pw_below_drewN | apply below_drew1) | exact HB.out)) hb); clear HB; have HB := n0_; clear n0_; (try clear hb); (try clear hb2); (try clear hk); (try clear hi))); try go_wp2_with (first | (go_at_call 22; (with_reducible refine (spec_ParcelValid.calls k _ _ l0 true _ ?side1 ?side2 A4.out).mono ?_); (case side1 => repeat (first | exact (Kd.C_below HR0.out HB.out) | (with_reducible refine Kd.C_alloc ?_ _) | (with_reducible refine Kd.C_drewN ?_ _) | (with_reducible refine Kd.C_drew ?_))); (case side2 => exact HC0.out); rintro e w7 ⟨rfl, hb⟩; have n0_ := Aside0.mk (below_step (by repeat (first | (with_reducible first | exact HB.out | apply below_alloc | apply pw_below_drewN | apply below_drew1) | exact HB.out)) hb); clear HB; have HB := n0_; clear n0_; (try clear hb); (try clear hb2); (try clear hk); (try clear hi)) | (go_at_call 22; (with_reducible refine (spec_ParcelValid.calls k _ _ l1 t625 _ ?side1 ?side2 A6.out).mono ?_); (case side1 => repeat (first | exact (Kd.C_below HR1.out HB.out) | (with_reducible refine Kd.C_alloc ?_ _) | (with_reducible refine Kd.C_drewN ?_ _) | (with_reducible refine Kd.C_drew ?_))); (case side2 => exact HC1.out); rintro e w8 ⟨rfl, hb⟩; have n0_ := Aside0.mk (below_step (by repeat (first | (with_reducible first | exact HB.out | apply below_alloc | apply pw_below_drewN | apply below_drew1) | exact HB.out)) hb); clear HB; have HB := n0_; clear n0_; (try clear hb); (try clear hb2); (try clear hk); (try clear hi))))
      go_meet
      case rel => exact ⟨_, (!t625), (by first | rfl | (simp; done) | (simp [*]; done)), H', ⟨by first | omega | exact Nat.le_refl _⟩, ⟨by repeat (first | (with_reducible first | exact HB.out | apply below_alloc | apply pw_below_drewN | apply below_drew1) | exact HB.out)⟩⟩
    · replace c5 := Bool.eq_false_iff.mpr c5
      subst c5
      have H1 : (spec_ParcelCommon.j0 k l0 l1 true) = some r := by rw [if_neg (show ¬ (false = true) by decide)] at H; exact H
      clear H
      have H := H1
      clear H1
      have H' := Aside0.mk H
      clear H
      go_wp2_with (first | (go_at_call 22; (with_reducible refine (spec_ParcelValid.calls k _ _ l0 false _ ?side1 ?side2 A4.out).mono ?_); (case side1 => repeat (first | exact (Kd.C_below HR0.out HB.out) | (with_reducible refine Kd.C_alloc ?_ _) | (with_reducible refine Kd.C_drewN ?_ _) | (with_reducible refine Kd.C_drew ?_))); (case side2 => exact HC0.out); rintro e w9 ⟨rfl, hb⟩; have n0_ := Aside0.mk (below_step (by repeat (first | (with_reducible first | exact HB.out | apply below_alloc | apply pw_below_drewN | apply below_drew1) | exact HB.out)) hb); clear HB; have HB := n0_; clear n0_; (try clear hb); (try clear hb2); (try clear hk); (try clear hi)))
      repeat (go_quiet (first | (go_at_call 22; (with_reducible refine (spec_ParcelValid.calls k _ _ l0 false _ ?side1 ?side2 A4.out).mono ?_); (case side1 => repeat (first | exact (Kd.C_below HR0.out HB.out) | (with_reducible refine Kd.C_alloc ?_ _) | (with_reducible refine Kd.C_drewN ?_ _) | (with_reducible refine Kd.C_drew ?_))); (case side2 => exact HC0.out); rintro e w9 ⟨rfl, hb⟩; have n0_ := Aside0.mk (below_step (by repeat (first | (with_reducible first | exact HB.out | apply below_alloc | apply pw_below_drewN | apply below_drew1) | exact HB.out)) hb); clear HB; have HB := n0_; clear n0_; (try clear hb); (try clear hb2); (try clear hk); (try clear hi))); try go_wp2_with (first | (go_at_call 22; (with_reducible refine (spec_ParcelValid.calls k _ _ l0 false _ ?side1 ?side2 A4.out).mono ?_); (case side1 => repeat (first | exact (Kd.C_below HR0.out HB.out) | (with_reducible refine Kd.C_alloc ?_ _) | (with_reducible refine Kd.C_drewN ?_ _) | (with_reducible refine Kd.C_drew ?_))); (case side2 => exact HC0.out); rintro e w9 ⟨rfl, hb⟩; have n0_ := Aside0.mk (below_step (by repeat (first | (with_reducible first | exact HB.out | apply below_alloc | apply pw_below_drewN | apply below_drew1) | exact HB.out)) hb); clear HB; have HB := n0_; clear n0_; (try clear hb); (try clear hb2); (try clear hk); (try clear hi))))
      go_meet
      case rel => exact ⟨_, (true), (by first | rfl | (simp; done) | (simp [*]; done)), H', ⟨by first | omega | exact Nat.le_refl _⟩, ⟨by repeat (first | (with_reducible first | exact HB.out | apply below_alloc | apply pw_below_drewN | apply below_drew1) | exact HB.out)⟩⟩
  case rest =>
    clear HC3
    try clear c1
    try clear p2
    try clear c3
    try clear c5
    obtain ⟨kq, x15_2, rfl, HA, HJ2, HB⟩ := hcut
    cases kq with
    | zero => exact absurd HA.out (by simp [spec_ParcelCommon.j0])
    | succ kj2 =>
      have H := HA.out
      clear HA
      simp only [spec_ParcelCommon.j0] at H
      by_cases c10 : x15_2 = true
      · subst c10
        have H1 : (some (-1)) = some r := by rw [if_pos rfl] at H; exact H
        clear H
        have H := H1
        clear H1
        obtain rfl := Option.some.inj H
        go_wp2
        repeat (go_quiet (fail); try go_wp2)
        go_ret
        exact ⟨by first | rfl | (simp [errW_none, errW_some] <;> rfl) | (simp [*, errW_none, errW_some] <;> rfl), by repeat (first | (with_reducible first | exact HB.out | apply below_alloc | apply pw_below_drewN | apply below_drew1) | exact HB.out)⟩
      · replace c10 := Bool.eq_false_iff.mpr c10
        subst c10
        have H1 : (spec_ParcelCommon.l0 kj2 l0 l1 0 0) = some r := by rw [if_neg (show ¬ (false = true) by decide)] at H; exact H
        clear H
        have H := H1
        clear H1
        have H' := Aside0.mk H
        clear H
        go_wp2
        repeat (go_quiet (fail); try go_wp2)
        go_loopg [5, 6] kj2 (fun kq v5 v6 w' => ∃ (x5_2 : Int) (x6_2 : Int), v5 = .int .i64 x5_2 ∧ v6 = .int .i64 x6_2 ∧ Aside0 (spec_ParcelCommon.l0 kq l0 l1 x5_2 x6_2 = some r) ∧ Aside0 (kq ≤ kj2) ∧ Aside0 (Below w.heap.size w w'))
        case atStart => exact ⟨(0), (0), (by first | rfl | (simp; done) | (simp [*]; done)), (by first | rfl | (simp; done) | (simp [*]; done)), H', ⟨Nat.le_refl _⟩, ⟨by repeat (first | (with_reducible first | exact HB.out | apply below_alloc | apply pw_below_drewN | apply below_drew1) | exact HB.out)⟩⟩
        case round =>
          clear H'
          try clear c1
          try clear p2
          try clear c3
          try clear c5
          try clear c10
          try clear p2
          obtain ⟨x5_2, x6_2, rfl, rfl, HA, HK2, HB⟩ := hrel
          cases gk with
          | zero => exact absurd HA.out (by simp [spec_ParcelCommon.l0])
          | succ k2 =>
            have H := HA.out
            clear HA
            simp only [spec_ParcelCommon.l0] at H
            by_cases c11 : x6_2 < (l0.length : Int)
            · rw [if_pos c11] at H
              have c11b0 : decide (x6_2 < (l0.length : Int)) = true := decide_eq_true c11
              clear c11
              have H' := Aside0.mk H
              clear H
              go_wp2
              repeat (go_quiet (fail); try go_wp2)
              go_loopg [5, 7] k2 (fun kq v5 v7 w' => ∃ (x5_3 : Int) (x7_3 : Int), v5 = .int .i64 x5_3 ∧ v7 = .int .i64 x7_3 ∧ Aside0 (spec_ParcelCommon.l1 kq l0 l1 x5_3 x6_2 x7_3 = some r) ∧ Aside0 (kq ≤ k2) ∧ Aside0 (Below w.heap.size w w'))
              case atStart => exact ⟨(x5_2), (0), (by first | rfl | (simp; done) | (simp [*]; done)), (by first | rfl | (simp; done) | (simp [*]; done)), H', ⟨Nat.le_refl _⟩, ⟨by repeat (first | (with_reducible first | exact HB.out | apply below_alloc | apply pw_below_drewN | apply below_drew1) | exact HB.out)⟩⟩
              case round =>
                clear H'
                try clear c1
                try clear p2
                try clear c3
                try clear c5
                try clear c10
                try clear c11
                try clear c11b0
                try clear p2
                obtain ⟨x5_3, x7_3, rfl, rfl, HA, HK3, HB⟩ := hrel
                cases gk with
                | zero => exact absurd HA.out (by simp [spec_ParcelCommon.l1])
                | succ k3 =>
                  have H := HA.out
                  clear HA
                  simp only [spec_ParcelCommon.l1] at H
                  by_cases c12 : x7_3 < (l1.length : Int)
                  · rw [if_pos c12] at H
                    have c12b0 : decide (x7_3 < (l1.length : Int)) = true := decide_eq_true c12
                    clear c12
                    by_cases c13 : 0 ≤ x6_2
                    · rw [if_pos c13] at H
                      have c13b0 : decide (0 ≤ x6_2) = true := decide_eq_true c13
                      clear c13
                      by_cases c14 : x6_2 < (l0.length : Int)
                      · rw [if_pos c14] at H
                        have c14b0 : decide (x6_2 < (l0.length : Int)) = true := decide_eq_true c14
                        clear c14
                        by_cases c15 : (l1.length : Int) = 0
                        · rw [if_pos c15] at H
                          exact absurd H (by simp)
                        · rw [if_neg c15] at H
                          have c15b0 : ((l1.length : Int) == 0) = false := beq_eq_false_iff_ne.mpr c15
                          have c15b1 : ((l1.length : Int) != 0) = true := bne_iff_ne.mpr c15
                          have c15b2 : ¬ (l1 = []) := fun h_ => c15 (by rw [h_]; rfl)
                          obtain ⟨ji16, hji16⟩ : ∃ j_ : Int, (Int.tmod (wrap64 (x7_3 + 1)) (l1.length : Int)) = j_ := ⟨_, rfl⟩
                          replace H : (if 0 ≤ (ji16) then (if (ji16) < (l1.length : Int) then (if (((rd_T32 l0 x6_2).f0) == ((rd_T32 l1 (ji16)).f0) && (((rd_T32 l0 x6_2).f1) == ((rd_T32 l1 (ji16)).f1))) = true then (if (l0.length : Int) = 0 then (none) else (if 0 ≤ (Int.tmod (wrap64 (x6_2 + 1)) (l0.length : Int)) then (if (Int.tmod (wrap64 (x6_2 + 1)) (l0.length : Int)) < (l0.length : Int) then (if 0 ≤ x7_3 then (if (((rd_T32 l0 (Int.tmod (wrap64 (x6_2 + 1)) (l0.length : Int))).f0) == ((rd_T32 l1 x7_3).f0) && (((rd_T32 l0 (Int.tmod (wrap64 (x6_2 + 1)) (l0.length : Int))).f1) == ((rd_T32 l1 x7_3).f1))) = true then (spec_ParcelCommon.l1 k3 l0 l1 (wrap64 (x5_3 + 1)) x6_2 (wrap64 (x7_3 + 1))) else (spec_ParcelCommon.l1 k3 l0 l1 x5_3 x6_2 (wrap64 (x7_3 + 1)))) else (none)) else (none)) else (none))) else (spec_ParcelCommon.l1 k3 l0 l1 x5_3 x6_2 (wrap64 (x7_3 + 1)))) else (none)) else (none)) = some r := by first | (rw [hji16] at H; exact H) | (simp only [hji16] at H ⊢; exact H)
                          by_cases c17 : 0 ≤ (ji16)
                          · rw [if_pos c17] at H
                            have c17b0 : decide (0 ≤ (ji16)) = true := decide_eq_true c17
                            clear c17
                            by_cases c18 : (ji16) < (l1.length : Int)
                            · rw [if_pos c18] at H
                              have c18b0 : decide ((ji16) < (l1.length : Int)) = true := decide_eq_true c18
                              clear c18
                              by_cases c19 : (((rd_T32 l0 x6_2).f0) == ((rd_T32 l1 (ji16)).f0) && (((rd_T32 l0 x6_2).f1) == ((rd_T32 l1 (ji16)).f1))) = true
                              · rw [if_pos c19] at H
                                have c19b0 : (((rd_T32 l0 x6_2).f0) == ((rd_T32 l1 (ji16)).f0) && (((rd_T32 l0 x6_2).f1) == ((rd_T32 l1 (ji16)).f1))) = true := c19
                                (try (have c19b1 : decide (((rd_T32 l0 x6_2).f0) = ((rd_T32 l1 (ji16)).f0) && (((rd_T32 l0 x6_2).f1) == ((rd_T32 l1 (ji16)).f1))) = true := by simpa using c19))
                                (try (have c19b2 : (((rd_T32 l0 x6_2).f0) == ((rd_T32 l1 (ji16)).f0) && (((rd_T32 l0 x6_2).f1) == ((rd_T32 l1 (ji16)).f1))) = true := by simpa using c19))
                                clear c19
                                by_cases c20 : (l0.length : Int) = 0
                                · rw [if_pos c20] at H
                                  exact absurd H (by simp)
                                · rw [if_neg c20] at H
                                  have c20b0 : ((l0.length : Int) == 0) = false := beq_eq_false_iff_ne.mpr c20
                                  have c20b1 : ((l0.length : Int) != 0) = true := bne_iff_ne.mpr c20
                                  have c20b2 : ¬ (l0 = []) := fun h_ => c20 (by rw [h_]; rfl)
                                  obtain ⟨ji21, hji21⟩ : ∃ j_ : Int, (Int.tmod (wrap64 (x6_2 + 1)) (l0.length : Int)) = j_ := ⟨_, rfl⟩
                                  replace H : (if 0 ≤ (ji21) then (if (ji21) < (l0.length : Int) then (if 0 ≤ x7_3 then (if (((rd_T32 l0 (ji21)).f0) == ((rd_T32 l1 x7_3).f0) && (((rd_T32 l0 (ji21)).f1) == ((rd_T32 l1 x7_3).f1))) = true then (spec_ParcelCommon.l1 k3 l0 l1 (wrap64 (x5_3 + 1)) x6_2 (wrap64 (x7_3 + 1))) else (spec_ParcelCommon.l1 k3 l0 l1 x5_3 x6_2 (wrap64 (x7_3 + 1)))) else (none)) else (none)) else (none)) = some r := by first | (rw [hji21] at H; exact H) | (simp only [hji21] at H ⊢; exact H)
                                  by_cases c22 : 0 ≤ (ji21)
                                  · rw [if_pos c22] at H
                                    have c22b0 : decide (0 ≤ (ji21)) = true := decide_eq_true c22
                                    clear c22
                                    by_cases c23 : (ji21) < (l0.length : Int)
                                    · rw [if_pos c23] at H
                                      have c23b0 : decide ((ji21) < (l0.length : Int)) = true := decide_eq_true c23
                                      clear c23
                                      by_cases c24 : 0 ≤ x7_3
                                      · rw [if_pos c24] at H
                                        have c24b0 : decide (0 ≤ x7_3) = true := decide_eq_true c24
                                        clear c24
                                        by_cases c25 : (((rd_T32 l0 (ji21)).f0) == ((rd_T32 l1 x7_3).f0) && (((rd_T32 l0 (ji21)).f1) == ((rd_T32 l1 x7_3).f1))) = true
                                        · rw [if_pos c25] at H
                                          have c25b0 : (((rd_T32 l0 (ji21)).f0) == ((rd_T32 l1 x7_3).f0) && (((rd_T32 l0 (ji21)).f1) == ((rd_T32 l1 x7_3).f1))) = true := c25
                                          (try (have c25b1 : decide (((rd_T32 l0 (ji21)).f0) = ((rd_T32 l1 x7_3).f0) && (((rd_T32 l0 (ji21)).f1) == ((rd_T32 l1 x7_3).f1))) = true := by simpa using c25))
                                          (try (have c25b2 : (((rd_T32 l0 (ji21)).f0) == ((rd_T32 l1 x7_3).f0) && (((rd_T32 l0 (ji21)).f1) == ((rd_T32 l1 x7_3).f1))) = true := by simpa using c25))
                                          clear c25
                                          have H' := Aside0.mk H
                                          clear H
                                          have p626 : 0 ≤ (x6_2 : Int) := of_decide_eq_true (by first | (with_reducible assumption) | assumption)
                                          have q626 : x6_2 < (l0.length : Int) := of_decide_eq_true (by first | (with_reducible assumption) | assumption)
                                          obtain ⟨ad626, e626, hx626_0, hx626_1⟩ := at_T32 HR0.out x6_2 p626 q626
                                          cases e626
                                          replace hx626_0 := (HB.out.cell (World.block_lt_of_cell? w _ hx626_0)).trans hx626_0
                                          replace hx626_1 := (HB.out.cell (World.block_lt_of_cell? w _ hx626_1)).trans hx626_1
                                          replace p626 := eq_true p626
                                          replace q626 := eq_true q626
                                          have p627 : 0 ≤ ((ji16) : Int) := of_decide_eq_true (by first | (with_reducible assumption) | assumption)
                                          have q627 : (ji16) < (l1.length : Int) := of_decide_eq_true (by first | (with_reducible assumption) | assumption)
                                          obtain ⟨ad627, e627, hx627_0, hx627_1⟩ := at_T32 HR1.out (ji16) p627 q627
                                          cases e627
                                          replace hx627_0 := (HB.out.cell (World.block_lt_of_cell? w _ hx627_0)).trans hx627_0
                                          replace hx627_1 := (HB.out.cell (World.block_lt_of_cell? w _ hx627_1)).trans hx627_1
                                          replace p627 := eq_true p627
                                          replace q627 := eq_true q627
                                          have p628 : 0 ≤ ((ji21) : Int) := of_decide_eq_true (by first | (with_reducible assumption) | assumption)
                                          have q628 : (ji21) < (l0.length : Int) := of_decide_eq_true (by first | (with_reducible assumption) | assumption)
                                          obtain ⟨ad628, e628, hx628_0, hx628_1⟩ := at_T32 HR0.out (ji21) p628 q628
                                          obtain rfl : ad626 = ad628 := (by injection e628)
                                          replace hx628_0 := (HB.out.cell (World.block_lt_of_cell? w _ hx628_0)).trans hx628_0
                                          replace hx628_1 := (HB.out.cell (World.block_lt_of_cell? w _ hx628_1)).trans hx628_1
                                          replace p628 := eq_true p628
                                          replace q628 := eq_true q628
                                          have p629 : 0 ≤ (x7_3 : Int) := of_decide_eq_true (by first | (with_reducible assumption) | assumption)
                                          have q629 : x7_3 < (l1.length : Int) := of_decide_eq_true (by first | (with_reducible assumption) | assumption)
                                          obtain ⟨ad629, e629, hx629_0, hx629_1⟩ := at_T32 HR1.out x7_3 p629 q629
                                          obtain rfl : ad627 = ad629 := (by injection e629)
                                          replace hx629_0 := (HB.out.cell (World.block_lt_of_cell? w _ hx629_0)).trans hx629_0
                                          replace hx629_1 := (HB.out.cell (World.block_lt_of_cell? w _ hx629_1)).trans hx629_1
                                          replace p629 := eq_true p629
                                          replace q629 := eq_true q629
                                          go_wp2
                                          repeat (go_quiet (fail); try go_wp2)
                                          go_roundg k3
                                          case measure => have := HJ2.out; have := HK2.out; have := HK3.out; omega
                                          case rel => exact ⟨(wrap64 (x5_3 + 1)), (wrap64 (x7_3 + 1)), (by first | rfl | (simp; done) | (simp [*]; done)), (by first | rfl | (simp; done) | (simp [*]; done)), H', ⟨by have := HJ2.out; have := HK2.out; have := HK3.out; omega⟩, ⟨by repeat (first | (with_reducible first | exact HB.out | apply below_alloc | apply pw_below_drewN | apply below_drew1) | exact HB.out)⟩⟩
                                        · rw [if_neg c25] at H
                                          have c25b0 : (((rd_T32 l0 (ji21)).f0) == ((rd_T32 l1 x7_3).f0) && (((rd_T32 l0 (ji21)).f1) == ((rd_T32 l1 x7_3).f1))) = false := by simpa using c25
                                          (try (have c25b1 : decide (((rd_T32 l0 (ji21)).f0) = ((rd_T32 l1 x7_3).f0) && (((rd_T32 l0 (ji21)).f1) == ((rd_T32 l1 x7_3).f1))) = false := by simpa using c25))
                                          (try (have c25b2 : (((rd_T32 l0 (ji21)).f0) == ((rd_T32 l1 x7_3).f0) && (((rd_T32 l0 (ji21)).f1) == ((rd_T32 l1 x7_3).f1))) = false := by simpa using c25))
                                          (try (have c25b3 : ¬ (((rd_T32 l0 (ji21)).f0) = ((rd_T32 l1 x7_3).f0) && (((rd_T32 l0 (ji21)).f1) == ((rd_T32 l1 x7_3).f1))) := by simpa using c25))
                                          clear c25
                                          have H' := Aside0.mk H
                                          clear H
                                          have p626 : 0 ≤ (x6_2 : Int) := of_decide_eq_true (by first | (with_reducible assumption) | assumption)
                                          have q626 : x6_2 < (l0.length : Int) := of_decide_eq_true (by first | (with_reducible assumption) | assumption)
                                          obtain ⟨ad626, e626, hx626_0, hx626_1⟩ := at_T32 HR0.out x6_2 p626 q626
                                          cases e626
                                          replace hx626_0 := (HB.out.cell (World.block_lt_of_cell? w _ hx626_0)).trans hx626_0
                                          replace hx626_1 := (HB.out.cell (World.block_lt_of_cell? w _ hx626_1)).trans hx626_1
                                          replace p626 := eq_true p626
                                          replace q626 := eq_true q626
                                          have p627 : 0 ≤ ((ji16) : Int) := of_decide_eq_true (by first | (with_reducible assumption) | assumption)
                                          have q627 : (ji16) < (l1.length : Int) := of_decide_eq_true (by first | (with_reducible assumption) | assumption)
                                          obtain ⟨ad627, e627, hx627_0, hx627_1⟩ := at_T32 HR1.out (ji16) p627 q627
                                          cases e627
                                          replace hx627_0 := (HB.out.cell (World.block_lt_of_cell? w _ hx627_0)).trans hx627_0
                                          replace hx627_1 := (HB.out.cell (World.block_lt_of_cell? w _ hx627_1)).trans hx627_1
                                          replace p627 := eq_true p627
                                          replace q627 := eq_true q627
                                          have p628 : 0 ≤ ((ji21) : Int) := of_decide_eq_true (by first | (with_reducible assumption) | assumption)
                                          have q628 : (ji21) < (l0.length : Int) := of_decide_eq_true (by first | (with_reducible assumption) | assumption)
                                          obtain ⟨ad628, e628, hx628_0, hx628_1⟩ := at_T32 HR0.out (ji21) p628 q628
                                          obtain rfl : ad626 = ad628 := (by injection e628)
                                          replace hx628_0 := (HB.out.cell (World.block_lt_of_cell? w _ hx628_0)).trans hx628_0
                                          replace hx628_1 := (HB.out.cell (World.block_lt_of_cell? w _ hx628_1)).trans hx628_1
                                          replace p628 := eq_true p628
                                          replace q628 := eq_true q628
                                          have p629 : 0 ≤ (x7_3 : Int) := of_decide_eq_true (by first | (with_reducible assumption) | assumption)
                                          have q629 : x7_3 < (l1.length : Int) := of_decide_eq_true (by first | (with_reducible assumption) | assumption)
                                          obtain ⟨ad629, e629, hx629_0, hx629_1⟩ := at_T32 HR1.out x7_3 p629 q629
                                          obtain rfl : ad627 = ad629 := (by injection e629)
                                          replace hx629_0 := (HB.out.cell (World.block_lt_of_cell? w _ hx629_0)).trans hx629_0
                                          replace hx629_1 := (HB.out.cell (World.block_lt_of_cell? w _ hx629_1)).trans hx629_1
                                          replace p629 := eq_true p629
                                          replace q629 := eq_true q629
                                          go_wp2
                                          repeat (go_quiet (fail); try go_wp2)
                                          go_roundg k3
                                          case measure => have := HJ2.out; have := HK2.out; have := HK3.out; omega
                                          case rel => exact ⟨(x5_3), (wrap64 (x7_3 + 1)), (by first | rfl | (simp; done) | (simp [*]; done)), (by first | rfl | (simp; done) | (simp [*]; done)), H', ⟨by have := HJ2.out; have := HK2.out; have := HK3.out; omega⟩, ⟨by repeat (first | (with_reducible first | exact HB.out | apply below_alloc | apply pw_below_drewN | apply below_drew1) | exact HB.out)⟩⟩
                                      · rw [if_neg c24] at H
                                        exact absurd H (by simp)
                                    · rw [if_neg c23] at H
                                      exact absurd H (by simp)
                                  · rw [if_neg c22] at H
                                    exact absurd H (by simp)
                              · rw [if_neg c19] at H
                                have c19b0 : (((rd_T32 l0 x6_2).f0) == ((rd_T32 l1 (ji16)).f0) && (((rd_T32 l0 x6_2).f1) == ((rd_T32 l1 (ji16)).f1))) = false := by simpa using c19
                                (try (have c19b1 : decide (((rd_T32 l0 x6_2).f0) = ((rd_T32 l1 (ji16)).f0) && (((rd_T32 l0 x6_2).f1) == ((rd_T32 l1 (ji16)).f1))) = false := by simpa using c19))
                                (try (have c19b2 : (((rd_T32 l0 x6_2).f0) == ((rd_T32 l1 (ji16)).f0) && (((rd_T32 l0 x6_2).f1) == ((rd_T32 l1 (ji16)).f1))) = false := by simpa using c19))
                                (try (have c19b3 : ¬ (((rd_T32 l0 x6_2).f0) = ((rd_T32 l1 (ji16)).f0) && (((rd_T32 l0 x6_2).f1) == ((rd_T32 l1 (ji16)).f1))) := by simpa using c19))
                                clear c19
                                have H' := Aside0.mk H
                                clear H
                                have p626 : 0 ≤ (x6_2 : Int) := of_decide_eq_true (by first | (with_reducible assumption) | assumption)
                                have q626 : x6_2 < (l0.length : Int) := of_decide_eq_true (by first | (with_reducible assumption) | assumption)
                                obtain ⟨ad626, e626, hx626_0, hx626_1⟩ := at_T32 HR0.out x6_2 p626 q626
                                cases e626
                                replace hx626_0 := (HB.out.cell (World.block_lt_of_cell? w _ hx626_0)).trans hx626_0
                                replace hx626_1 := (HB.out.cell (World.block_lt_of_cell? w _ hx626_1)).trans hx626_1
                                replace p626 := eq_true p626
                                replace q626 := eq_true q626
                                have p627 : 0 ≤ ((ji16) : Int) := of_decide_eq_true (by first | (with_reducible assumption) | assumption)
                                have q627 : (ji16) < (l1.length : Int) := of_decide_eq_true (by first | (with_reducible assumption) | assumption)
                                obtain ⟨ad627, e627, hx627_0, hx627_1⟩ := at_T32 HR1.out (ji16) p627 q627
                                cases e627
                                replace hx627_0 := (HB.out.cell (World.block_lt_of_cell? w _ hx627_0)).trans hx627_0
                                replace hx627_1 := (HB.out.cell (World.block_lt_of_cell? w _ hx627_1)).trans hx627_1
                                replace p627 := eq_true p627
                                replace q627 := eq_true q627
                                go_wp2
                                repeat (go_quiet (fail); try go_wp2)
                                go_roundg k3
                                case measure => have := HJ2.out; have := HK2.out; have := HK3.out; omega
                                case rel => exact ⟨(x5_3), (wrap64 (x7_3 + 1)), (by first | rfl | (simp; done) | (simp [*]; done)), (by first | rfl | (simp; done) | (simp [*]; done)), H', ⟨by have := HJ2.out; have := HK2.out; have := HK3.out; omega⟩, ⟨by repeat (first | (with_reducible first | exact HB.out | apply below_alloc | apply pw_below_drewN | apply below_drew1) | exact HB.out)⟩⟩
                            · rw [if_neg c18] at H
                              exact absurd H (by simp)
                          · rw [if_neg c17] at H
                            exact absurd H (by simp)
                      · rw [if_neg c14] at H
                        exact absurd H (by simp)
                    · rw [if_neg c13] at H
                      exact absurd H (by simp)
                  · rw [if_neg c12] at H
                    have c12b0 : decide (x7_3 < (l1.length : Int)) = false := decide_eq_false c12
                    clear c12
                    have H' := Aside0.mk H
                    clear H
                    go_wp2
                    repeat (go_quiet (fail); try go_wp2)
                    go_roundg k3
                    case measure => have := HJ2.out; have := HK2.out; have := HK3.out; omega
                    case rel => exact ⟨(x5_3), (wrap64 (x6_2 + 1)), (by first | rfl | (simp; done) | (simp [*]; done)), (by first | rfl | (simp; done) | (simp [*]; done)), H', ⟨by have := HJ2.out; have := HK2.out; have := HK3.out; omega⟩, ⟨by repeat (first | (with_reducible first | exact HB.out | apply below_alloc | apply pw_below_drewN | apply below_drew1) | exact HB.out)⟩⟩
            · rw [if_neg c11] at H
              have c11b0 : decide (x6_2 < (l0.length : Int)) = false := decide_eq_false c11
              clear c11
              obtain rfl := Option.some.inj H
              go_wp2
              repeat (go_quiet (fail); try go_wp2)
              go_ret
              exact ⟨by first | rfl | (simp [errW_none, errW_some] <;> rfl) | (simp [*, errW_none, errW_some] <;> rfl), by repeat (first | (with_reducible first | exact HB.out | apply below_alloc | apply pw_below_drewN | apply below_drew1) | exact HB.out)⟩

end Go.Proofs.Ytgdhgncdpmalcaa.Q
