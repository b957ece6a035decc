/- Part 4 of what the proof of this law rests on: the functions of the translation as plain Lean functions with their walks, and the plain laws behind. -/
import Derived.Test.YtgdhgncdpmalcaaMFnSplitPlace3
namespace Go.Proofs.Ytgdhgncdpmalcaa.Q
open Go.RowKit Go.Proofs.YtgdhgncdpmalcaaW.PrintWords Go.Proofs.YtgdhgncdpmalcaaW.PrintLast Go.Proofs.YtgdhgncdpmalcaaW.PrintMore
attribute [local go_sem] max2_int min2_int max_two min_two max_three min_three max_four min_four
set_option linter.unusedVariables false
set_option linter.unusedSimpArgs false

/-! ### spec_ParcelSplit: function 35 -/
def spec_ParcelSplit.j0 : Nat → List (S32) → Int → Int → Bool → Option ((List (S32)) × (List (S32)) × Bool)
 | 0, _, _, _, _ => none
 | k + 1, x0, x1, x2, x28 => if x28 = true then (some ((([] : List (S32))), (([] : List (S32))), false)) else ((some (([] : List (S32)) : List (S32))).bind fun y543 => (if 0 ≤ x1 then (if x1 ≤ (wrap64 (x2 + 1)) then (if (wrap64 (x2 + 1)) ≤ (x0.length : Int) then ((some ((x0.take ((wrap64 (x2 + 1)) : Int).toNat).drop (x1 : Int).toNat : List (S32))).bind fun y546 => (if y543.length + y546.length < 8796093022208 then ((some (y543 ++ y546 : List (S32))).bind fun y550 => ((some (([] : List (S32)) : List (S32))).bind fun y553 => (if 0 ≤ x2 then (if x2 ≤ (x0.length : Int) then ((some (x0.drop (x2 : Int).toNat : List (S32))).bind fun y556 => (if y553.length + y556.length < 8796093022208 then ((some (y553 ++ y556 : List (S32))).bind fun y560 => (if 0 ≤ (wrap64 (x1 + 1)) then (if (wrap64 (x1 + 1)) ≤ (x0.length : Int) then ((some (x0.take ((wrap64 (x1 + 1)) : Int).toNat : List (S32))).bind fun y563 => (if y560.length + y563.length < 8796093022208 then ((some (y560 ++ y563 : List (S32))).bind fun y567 => ((spec_ParcelValid.f k y550).bind fun t570 => (if t570 = true then ((spec_ParcelValid.f k y567).bind fun t571 => (if t571 = true then (some (y550, y567, true)) else (some ((([] : List (S32))), (([] : List (S32))), false)))) else (some ((([] : List (S32))), (([] : List (S32))), false))))) else (none))) else (none)) else (none))) else (none))) else (none)) else (none)))) else (none))) else (none)) else (none)) else (none)))
def spec_ParcelSplit.f (k : Nat) (l0 : List (S32)) (a1 : Int) (a2 : Int) : Option ((List (S32)) × (List (S32)) × Bool) := (spec_ParcelValid.f k l0).bind fun t534 => (if t534 = true then ((spec_l6In.f a2 0 (wrap64 ((l0.length : Int) - 1))).bind fun t535 => (if t535 = true then ((spec_l6In.f a1 0 (wrap64 (a2 - 1))).bind fun t536 => (spec_ParcelSplit.j0 k l0 a1 a2 (!t536))) else (spec_ParcelSplit.j0 k l0 a1 a2 true))) else (spec_ParcelSplit.j0 k l0 a1 a2 true))
def spec_ParcelSplit.T4 : Bool × List (List Nat × List Nat) := (true, [([], []), ([], []), ([], []), ([1, 2], [1, 2]), ([0, 3], [0, 3]), ([], []), ([], []), ([6], [6]), ([5, 7], [5, 7]), ([4, 8, 4], [4, 8]), ([9, 9, 0, 1, 2, 3, 4, 5, 6, 7, 8, 9], [9])])
def spec_ParcelSplit.B4 : List Nat := [0, 0, 0, 6, 15, 0, 0, 64, 224, 511, 1023]
theorem spec_ParcelSplit.tab4 : rtab .any (opsOf Try.f35 4) = spec_ParcelSplit.T4 := by kernel_rfl
theorem spec_ParcelSplit.bits4 : waitsOk spec_ParcelSplit.T4.2 spec_ParcelSplit.B4 = true := by kernel_rfl
set_option maxHeartbeats 8000000 in
set_option maxRecDepth 100000 in
theorem spec_ParcelSplit.calls (k : Nat) (A0 : Option Addr) (c0 : Nat) (l0 : List (S32)) (a1 : Int) (a2 : Int) (r1 : List (S32)) (r2 : List (S32)) (r3 : Bool) (w : World) (hr0 : Kd.C k32 w A0 l0.length l0) (hc0 : l0.length ≤ c0) (h : spec_ParcelSplit.f k l0 a1 a2 = some (r1, r2, r3)) :
  Calls Try.prog 35 #[.slice A0 l0.length c0, .int .i64 a1, .int .i64 a2] w fun e w' => ∃ v0_ v1_ : Value, e = .returned (.tuple #[v0_, v1_, .bool r3]) ∧ Kd.R k32 32 w' w.heap.size (fun k_ => some k_ ≠ (v1_ : Value).ownBlock) v0_ r1 ∧ Kd.R k32 32 w' w.heap.size (fun k_ => some k_ ≠ (v0_ : Value).ownBlock) v1_ r2 ∧ Below w.heap.size w w' := by
 have HR0 := Aside0.mk hr0
 have HC0 := Aside0.mk hc0
 clear hr0 hc0
 have HB := Aside0.mk (Below.refl w.heap.size w)
 have H : ((spec_ParcelValid.f k l0).bind fun t534 => (if t534 = true then ((spec_l6In.f a2 0 (wrap64 ((l0.length : Int) - 1))).bind fun t535 => (if t535 = true then ((spec_l6In.f a1 0 (wrap64 (a2 - 1))).bind fun t536 => (spec_ParcelSplit.j0 k l0 a1 a2 (!t536))) else (spec_ParcelSplit.j0 k l0 a1 a2 true))) else (spec_ParcelSplit.j0 k l0 a1 a2 true))) = some (r1, r2, r3) := h
 clear h
 have HC4 := Aside0.mk H
 clear H
 go_enter Try.func35, Try.ntmps35
 go_upto_region 1 with (fail)
 go_cut [28] (fun v28 wc => ∃ (kq : Nat) (x28_3 : Bool), v28 = .bool x28_3 ∧ Aside0 (spec_ParcelSplit.j0 kq l0 a1 a2 x28_3 = some (r1, r2, r3)) ∧ Aside0 (kq ≤ k) ∧ Aside0 (Below w.heap.size w wc))
 case first =>
  have H := HC4.out
  clear HC4
  replace H := Option.bind_eq_some_iff.mp H
  obtain ⟨t534, A50, H⟩ := H
  replace H : (if t534 = true then ((spec_l6In.f a2 0 (wrap64 ((l0.length : Int) - 1))).bind fun t535 => (if t535 = true then ((spec_l6In.f a1 0 (wrap64 (a2 - 1))).bind fun t536 => (spec_ParcelSplit.j0 k l0 a1 a2 (!t536))) else (spec_ParcelSplit.j0 k l0 a1 a2 true))) else (spec_ParcelSplit.j0 k l0 a1 a2 true)) = some (r1, r2, r3) := H
  have A5 := Aside0.mk A50
  clear A50
  by_cases c6 : t534 = true
  ·subst c6
   have H1 : ((spec_l6In.f a2 0 (wrap64 ((l0.length : Int) - 1))).bind fun t535 => (if t535 = true then ((spec_l6In.f a1 0 (wrap64 (a2 - 1))).bind fun t536 => (spec_ParcelSplit.j0 k l0 a1 a2 (!t536))) else (spec_ParcelSplit.j0 k l0 a1 a2 true))) = some (r1, r2, r3) := by rw [if_pos rfl] at H; exact H
   clear H
   have H := H1
   clear H1
   replace H := Option.bind_eq_some_iff.mp H
   obtain ⟨t535, A70, H⟩ := H
   replace H : (if t535 = true then ((spec_l6In.f a1 0 (wrap64 (a2 - 1))).bind fun t536 => (spec_ParcelSplit.j0 k l0 a1 a2 (!t536))) else (spec_ParcelSplit.j0 k l0 a1 a2 true)) = some (r1, r2, r3) := H
   have A7 := Aside0.mk A70
   clear A70
   by_cases c8 : t535 = true
   ·subst c8
    have H1 : ((spec_l6In.f a1 0 (wrap64 (a2 - 1))).bind fun t536 => (spec_ParcelSplit.j0 k l0 a1 a2 (!t536))) = some (r1, r2, r3) := by rw [if_pos rfl] at H; exact H
    clear H
    have H := H1
    clear H1
    replace H := Option.bind_eq_some_iff.mp H
    obtain ⟨t536, A90, H⟩ := H
    replace H : (spec_ParcelSplit.j0 k l0 a1 a2 (!t536)) = some (r1, r2, r3) := H
    have A9 := Aside0.mk A90
    clear A90
    have H' := Aside0.mk H
    clear H
    go_wp2_with (first | ((with_reducible refine gate_callee (f := 22) rfl ?_); refine goesL_ (some 12) rfl rfl Try.func22 (by kernel_rfl) rfl #[.slice A0 l0.length c0] rfl qq3 ?_; (with_reducible refine (spec_ParcelValid.calls k _ _ l0 true _ ?side1 ?side2 A5.out).mono ?_); (case side1 => exact qq83); (case side2 => exact HC0.out); rintro e w10 ⟨rfl, hb⟩; refine ⟨_, rfl, ?_⟩; have n0_ := Aside0.mk (below_step qq1 hb); clear HB; have HB := n0_; clear n0_; (try clear hb); (try clear hb2); (try clear hk); (try clear hi)) | (go_at_call 67; (with_reducible refine (spec_l6In.calls a2 0 (wrap64 ((l0.length : Int) - 1)) true _ A7.out).mono ?_); rintro e w' ⟨rfl, ⟨nd, rfl⟩⟩) | (go_at_call 67; (with_reducible refine (spec_l6In.calls a1 0 (wrap64 (a2 - 1)) t536 _ A9.out).mono ?_); rintro e w' ⟨rfl, ⟨nd, rfl⟩⟩))
    go_meet
    case rel => exact ⟨_, (!t536), qq25, H', ⟨qq40⟩, ⟨qq1⟩⟩
   ·replace c8 := Bool.eq_false_iff.mpr c8
    subst c8
    have H1 : (spec_ParcelSplit.j0 k l0 a1 a2 true) = some (r1, r2, r3) := by rw [if_neg (show ¬ (false = true) by decide)] at H; exact H
    clear H
    have H := H1
    clear H1
    have H' := Aside0.mk H
    clear H
    go_wp2_with (first | ((with_reducible refine gate_callee (f := 22) rfl ?_); refine goesL_ (some 12) rfl rfl Try.func22 (by kernel_rfl) rfl #[.slice A0 l0.length c0] rfl qq3 ?_; (with_reducible refine (spec_ParcelValid.calls k _ _ l0 true _ ?side1 ?side2 A5.out).mono ?_); (case side1 => exact qq83); (case side2 => exact HC0.out); rintro e w11 ⟨rfl, hb⟩; refine ⟨_, rfl, ?_⟩; have n0_ := Aside0.mk (below_step qq1 hb); clear HB; have HB := n0_; clear n0_; (try clear hb); (try clear hb2); (try clear hk); (try clear hi)) | (go_at_call 67; (with_reducible refine (spec_l6In.calls a2 0 (wrap64 ((l0.length : Int) - 1)) false _ A7.out).mono ?_); rintro e w' ⟨rfl, ⟨nd, rfl⟩⟩))
    go_meet
    case rel => exact ⟨_, (true), qq25, H', ⟨qq40⟩, ⟨qq1⟩⟩
  ·replace c6 := Bool.eq_false_iff.mpr c6
   subst c6
   have H1 : (spec_ParcelSplit.j0 k l0 a1 a2 true) = some (r1, r2, r3) := by rw [if_neg (show ¬ (false = true) by decide)] at H; exact H
   clear H
   have H := H1
   clear H1
   have H' := Aside0.mk H
   clear H
   go_wp2_with (first | ((with_reducible refine gate_callee (f := 22) rfl ?_); refine goesL_ (some 12) rfl rfl Try.func22 (by kernel_rfl) rfl #[.slice A0 l0.length c0] rfl qq3 ?_; (with_reducible refine (spec_ParcelValid.calls k _ _ l0 false _ ?side1 ?side2 A5.out).mono ?_); (case side1 => exact qq83); (case side2 => exact HC0.out); rintro e w12 ⟨rfl, hb⟩; refine ⟨_, rfl, ?_⟩; have n0_ := Aside0.mk (below_step qq1 hb); clear HB; have HB := n0_; clear n0_; (try clear hb); (try clear hb2); (try clear hk); (try clear hi)))
   go_meet
   case rel => exact ⟨_, (true), qq25, H', ⟨qq40⟩, ⟨qq1⟩⟩
 case rest =>
  clear HC4
  try clear c2
  try clear p2
  try clear c3
  try clear c6
  try clear p6
  try clear c8
  obtain ⟨kq, x28_3, rfl, HA, HJ3, HB⟩ := hcut
  cases kq with
  | zero => exact absurd HA.out (by simp [spec_ParcelSplit.j0])
  | succ kj3 =>
   have H := HA.out
   clear HA
   simp only [spec_ParcelSplit.j0] at H
   by_cases c13 : x28_3 = true
   ·subst c13
    have H1 : (some ((([] : List (S32))), (([] : List (S32))), false)) = some (r1, r2, r3) := by rw [if_pos rfl] at H; exact H
    clear H
    have H := H1
    clear H1
    obtain ⟨y537, hy537⟩ : ∃ y_ : List (S32), y_ = (([] : List (S32))) := ⟨_, rfl⟩
    replace H : (some (y537, (([] : List (S32))), false)) = some (r1, r2, r3) := by first | (rw [hy537]; with_reducible exact H) | (have H2_ := (Option.bind_some _ _).symm.trans H; rw [hy537]; with_reducible exact H2_) | (have H2_ := (Option.bind_some _ _).symm.trans H; with_reducible exact H2_) | with_reducible exact H | (rw [hy537]; exact H) | exact H
    have Ny537 := Aside0.mk hy537
    clear hy537
    obtain ⟨y540, hy540⟩ : ∃ y_ : List (S32), y_ = (([] : List (S32))) := ⟨_, rfl⟩
    replace H : (some (y537, y540, false)) = some (r1, r2, r3) := by first | (rw [hy540]; with_reducible exact H) | (have H2_ := (Option.bind_some _ _).symm.trans H; rw [hy540]; with_reducible exact H2_) | (have H2_ := (Option.bind_some _ _).symm.trans H; with_reducible exact H2_) | with_reducible exact H | (rw [hy540]; exact H) | exact H
    have Ny540 := Aside0.mk hy540
    clear hy540
    simp only [Option.some.injEq, Prod.mk.injEq] at H
    obtain ⟨rfl, rfl, rfl⟩ := H
    go_wp2_with (first | ((with_reducible refine gate_dst (N := 29) rfl ?_); (try (refine gate_guard (by rfl) ?_; dsimp only)); refine Kd.R_lit k32 _ 32 ?hg (N := 29) ?hd (xs := ([] : List (S32))) (inner := []) (ok := fun _ => True) (okp := fun _ => True) ?hr ?hp (fun _ hk => hk) trivial (Below.refl _ _) (Nat.le_refl _) (by simp) ?_; (case hd => rfl); (case hg => rfl); (case hr => exact qq22); (case hp => exact (Reps.none _ _)); intro v538 w14 ho15 hb hg_ hnew_; clear hg_ hnew_; (first | rw [← Ny537.out] at ho15 | (simp only [Int.reduceToNat] at ho15; rw [← Ny537.out] at ho15)); have n0_ := Aside0.mk (Kd.R_lower ho15 (below_size qq1)); have n1_ := Aside0.mk (below_step qq1 hb); clear HB; have HO539 := n0_; have HB := n1_; clear n0_ n1_; clear hb ho15) | ((with_reducible refine gate_dst (N := 30) rfl ?_); (try (refine gate_guard (by rfl) ?_; dsimp only)); refine Kd.R_lit k32 _ 32 ?hg (N := 30) ?hd (xs := ([] : List (S32))) (inner := []) (ok := fun _ => True) (okp := fun _ => True) ?hr ?hp (fun _ hk => hk) trivial (Below.refl _ _) (Nat.le_refl _) (by simp) ?_; (case hd => rfl); (case hg => rfl); (case hr => exact qq22); (case hp => exact (Reps.none _ _)); intro v541 w16 ho17 hb hg_ hnew_; clear hg_ hnew_; (first | rw [← Ny540.out] at ho17 | (simp only [Int.reduceToNat] at ho17; rw [← Ny540.out] at ho17)); have n0_ := Aside0.mk (Kd.R_elder' (qq2 HO539.out) (Kd.R_base ho17) hb); have n1_ := Aside0.mk (Kd.R_lower (Kd.R_new' ho17 (Kd.R_lt (qq2 HO539.out))) (below_size qq1)); have n2_ := Aside0.mk (below_step qq1 hb); clear HO539; clear HB; have HO539 := n0_; have HO542 := n1_; have HB := n2_; clear n0_ n1_ n2_; clear hb ho17))
    go_ret3
    exact ⟨_, _, qq10, qq18 HO539.out, qq18 HO542.out, qq1⟩
   ·replace c13 := Bool.eq_false_iff.mpr c13
    subst c13
    have H1 : ((some (([] : List (S32)) : List (S32))).bind fun y543 => (if 0 ≤ a1 then (if a1 ≤ (wrap64 (a2 + 1)) then (if (wrap64 (a2 + 1)) ≤ (l0.length : Int) then ((some ((l0.take ((wrap64 (a2 + 1)) : Int).toNat).drop (a1 : Int).toNat : List (S32))).bind fun y546 => (if y543.length + y546.length < 8796093022208 then ((some (y543 ++ y546 : List (S32))).bind fun y550 => ((some (([] : List (S32)) : List (S32))).bind fun y553 => (if 0 ≤ a2 then (if a2 ≤ (l0.length : Int) then ((some (l0.drop (a2 : Int).toNat : List (S32))).bind fun y556 => (if y553.length + y556.length < 8796093022208 then ((some (y553 ++ y556 : List (S32))).bind fun y560 => (if 0 ≤ (wrap64 (a1 + 1)) then (if (wrap64 (a1 + 1)) ≤ (l0.length : Int) then ((some (l0.take ((wrap64 (a1 + 1)) : Int).toNat : List (S32))).bind fun y563 => (if y560.length + y563.length < 8796093022208 then ((some (y560 ++ y563 : List (S32))).bind fun y567 => ((spec_ParcelValid.f kj3 y550).bind fun t570 => (if t570 = true then ((spec_ParcelValid.f kj3 y567).bind fun t571 => (if t571 = true then (some (y550, y567, true)) else (some ((([] : List (S32))), (([] : List (S32))), false)))) else (some ((([] : List (S32))), (([] : List (S32))), false))))) else (none))) else (none)) else (none))) else (none))) else (none)) else (none)))) else (none))) else (none)) else (none)) else (none))) = some (r1, r2, r3) := by rw [if_neg (show ¬ (false = true) by decide)] at H; exact H
    clear H
    have H := H1
    clear H1
    obtain ⟨y543, hy543⟩ : ∃ y_ : List (S32), y_ = (([] : List (S32))) := ⟨_, rfl⟩
    replace H : (if 0 ≤ a1 then (if a1 ≤ (wrap64 (a2 + 1)) then (if (wrap64 (a2 + 1)) ≤ (l0.length : Int) then ((some ((l0.take ((wrap64 (a2 + 1)) : Int).toNat).drop (a1 : Int).toNat : List (S32))).bind fun y546 => (if y543.length + y546.length < 8796093022208 then ((some (y543 ++ y546 : List (S32))).bind fun y550 => ((some (([] : List (S32)) : List (S32))).bind fun y553 => (if 0 ≤ a2 then (if a2 ≤ (l0.length : Int) then ((some (l0.drop (a2 : Int).toNat : List (S32))).bind fun y556 => (if y553.length + y556.length < 8796093022208 then ((some (y553 ++ y556 : List (S32))).bind fun y560 => (if 0 ≤ (wrap64 (a1 + 1)) then (if (wrap64 (a1 + 1)) ≤ (l0.length : Int) then ((some (l0.take ((wrap64 (a1 + 1)) : Int).toNat : List (S32))).bind fun y563 => (if y560.length + y563.length < 8796093022208 then ((some (y560 ++ y563 : List (S32))).bind fun y567 => ((spec_ParcelValid.f kj3 y550).bind fun t570 => (if t570 = true then ((spec_ParcelValid.f kj3 y567).bind fun t571 => (if t571 = true then (some (y550, y567, true)) else (some ((([] : List (S32))), (([] : List (S32))), false)))) else (some ((([] : List (S32))), (([] : List (S32))), false))))) else (none))) else (none)) else (none))) else (none))) else (none)) else (none)))) else (none))) else (none)) else (none)) else (none)) = some (r1, r2, r3) := by first | (rw [hy543]; with_reducible exact H) | (have H2_ := (Option.bind_some _ _).symm.trans H; rw [hy543]; with_reducible exact H2_) | (have H2_ := (Option.bind_some _ _).symm.trans H; with_reducible exact H2_) | with_reducible exact H | (rw [hy543]; exact H) | exact H
    have Ny543 := Aside0.mk hy543
    clear hy543
    by_cases c18 : 0 ≤ a1
    ·rw [if_pos c18] at H
     have c18b0 := eq_true c18
     have c18b1 : decide (0 ≤ a1) = true := decide_eq_true c18
     clear c18
     by_cases c19 : a1 ≤ (wrap64 (a2 + 1))
     ·rw [if_pos c19] at H
      have c19b0 := eq_true c19
      have c19b1 : decide (a1 ≤ (wrap64 (a2 + 1))) = true := decide_eq_true c19
      by_cases c20 : (wrap64 (a2 + 1)) ≤ (l0.length : Int)
      ·rw [if_pos c20] at H
       have c20b0 := eq_true c20
       have c20b1 : decide ((wrap64 (a2 + 1)) ≤ (l0.length : Int)) = true := decide_eq_true c20
       obtain ⟨y546, hy546⟩ : ∃ y_ : List (S32), y_ = ((l0.take ((wrap64 (a2 + 1)) : Int).toNat).drop (a1 : Int).toNat) := ⟨_, rfl⟩
       replace H : (if y543.length + y546.length < 8796093022208 then ((some (y543 ++ y546 : List (S32))).bind fun y550 => ((some (([] : List (S32)) : List (S32))).bind fun y553 => (if 0 ≤ a2 then (if a2 ≤ (l0.length : Int) then ((some (l0.drop (a2 : Int).toNat : List (S32))).bind fun y556 => (if y553.length + y556.length < 8796093022208 then ((some (y553 ++ y556 : List (S32))).bind fun y560 => (if 0 ≤ (wrap64 (a1 + 1)) then (if (wrap64 (a1 + 1)) ≤ (l0.length : Int) then ((some (l0.take ((wrap64 (a1 + 1)) : Int).toNat : List (S32))).bind fun y563 => (if y560.length + y563.length < 8796093022208 then ((some (y560 ++ y563 : List (S32))).bind fun y567 => ((spec_ParcelValid.f kj3 y550).bind fun t570 => (if t570 = true then ((spec_ParcelValid.f kj3 y567).bind fun t571 => (if t571 = true then (some (y550, y567, true)) else (some ((([] : List (S32))), (([] : List (S32))), false)))) else (some ((([] : List (S32))), (([] : List (S32))), false))))) else (none))) else (none)) else (none))) else (none))) else (none)) else (none)))) else (none)) = some (r1, r2, r3) := by first | (rw [hy546]; with_reducible exact H) | (have H2_ := (Option.bind_some _ _).symm.trans H; rw [hy546]; with_reducible exact H2_) | (have H2_ := (Option.bind_some _ _).symm.trans H; with_reducible exact H2_) | with_reducible exact H | (rw [hy546]; exact H) | exact H
       have Ny546 := Aside0.mk hy546
       clear hy546
       by_cases c21 : y543.length + y546.length < 8796093022208
       ·rw [if_pos c21] at H
        have LMc21 := Aside0.mk c21
        clear c21
        obtain ⟨y550, hy550⟩ : ∃ y_ : List (S32), y_ = (y543 ++ y546) := ⟨_, rfl⟩
        replace H : ((some (([] : List (S32)) : List (S32))).bind fun y553 => (if 0 ≤ a2 then (if a2 ≤ (l0.length : Int) then ((some (l0.drop (a2 : Int).toNat : List (S32))).bind fun y556 => (if y553.length + y556.length < 8796093022208 then ((some (y553 ++ y556 : List (S32))).bind fun y560 => (if 0 ≤ (wrap64 (a1 + 1)) then (if (wrap64 (a1 + 1)) ≤ (l0.length : Int) then ((some (l0.take ((wrap64 (a1 + 1)) : Int).toNat : List (S32))).bind fun y563 => (if y560.length + y563.length < 8796093022208 then ((some (y560 ++ y563 : List (S32))).bind fun y567 => ((spec_ParcelValid.f kj3 y550).bind fun t570 => (if t570 = true then ((spec_ParcelValid.f kj3 y567).bind fun t571 => (if t571 = true then (some (y550, y567, true)) else (some ((([] : List (S32))), (([] : List (S32))), false)))) else (some ((([] : List (S32))), (([] : List (S32))), false))))) else (none))) else (none)) else (none))) else (none))) else (none)) else (none))) = some (r1, r2, r3) := by first | (rw [hy550]; with_reducible exact H) | (have H2_ := (Option.bind_some _ _).symm.trans H; rw [hy550]; with_reducible exact H2_) | (have H2_ := (Option.bind_some _ _).symm.trans H; with_reducible exact H2_) | with_reducible exact H | (rw [hy550]; exact H) | exact H
        have Ny550 := Aside0.mk hy550
        clear hy550
        obtain ⟨y553, hy553⟩ : ∃ y_ : List (S32), y_ = (([] : List (S32))) := ⟨_, rfl⟩
        replace H : (if 0 ≤ a2 then (if a2 ≤ (l0.length : Int) then ((some (l0.drop (a2 : Int).toNat : List (S32))).bind fun y556 => (if y553.length + y556.length < 8796093022208 then ((some (y553 ++ y556 : List (S32))).bind fun y560 => (if 0 ≤ (wrap64 (a1 + 1)) then (if (wrap64 (a1 + 1)) ≤ (l0.length : Int) then ((some (l0.take ((wrap64 (a1 + 1)) : Int).toNat : List (S32))).bind fun y563 => (if y560.length + y563.length < 8796093022208 then ((some (y560 ++ y563 : List (S32))).bind fun y567 => ((spec_ParcelValid.f kj3 y550).bind fun t570 => (if t570 = true then ((spec_ParcelValid.f kj3 y567).bind fun t571 => (if t571 = true then (some (y550, y567, true)) else (some ((([] : List (S32))), (([] : List (S32))), false)))) else (some ((([] : List (S32))), (([] : List (S32))), false))))) else (none))) else (none)) else (none))) else (none))) else (none)) else (none)) = some (r1, r2, r3) := by first | (rw [hy553]; with_reducible exact H) | (have H2_ := (Option.bind_some _ _).symm.trans H; rw [hy553]; with_reducible exact H2_) | (have H2_ := (Option.bind_some _ _).symm.trans H; with_reducible exact H2_) | with_reducible exact H | (rw [hy553]; exact H) | exact H
        have Ny553 := Aside0.mk hy553
        clear hy553
        by_cases c22 : 0 ≤ a2
        ·rw [if_pos c22] at H
         have c22b0 := eq_true c22
         have c22b1 : decide (0 ≤ a2) = true := decide_eq_true c22
         clear c22
         by_cases c23 : a2 ≤ (l0.length : Int)
         ·rw [if_pos c23] at H
          have c23b0 := eq_true c23
          have c23b1 : decide (a2 ≤ (l0.length : Int)) = true := decide_eq_true c23
          clear c23
          obtain ⟨y556, hy556⟩ : ∃ y_ : List (S32), y_ = (l0.drop (a2 : Int).toNat) := ⟨_, rfl⟩
          replace H : (if y553.length + y556.length < 8796093022208 then ((some (y553 ++ y556 : List (S32))).bind fun y560 => (if 0 ≤ (wrap64 (a1 + 1)) then (if (wrap64 (a1 + 1)) ≤ (l0.length : Int) then ((some (l0.take ((wrap64 (a1 + 1)) : Int).toNat : List (S32))).bind fun y563 => (if y560.length + y563.length < 8796093022208 then ((some (y560 ++ y563 : List (S32))).bind fun y567 => ((spec_ParcelValid.f kj3 y550).bind fun t570 => (if t570 = true then ((spec_ParcelValid.f kj3 y567).bind fun t571 => (if t571 = true then (some (y550, y567, true)) else (some ((([] : List (S32))), (([] : List (S32))), false)))) else (some ((([] : List (S32))), (([] : List (S32))), false))))) else (none))) else (none)) else (none))) else (none)) = some (r1, r2, r3) := by first | (rw [hy556]; with_reducible exact H) | (have H2_ := (Option.bind_some _ _).symm.trans H; rw [hy556]; with_reducible exact H2_) | (have H2_ := (Option.bind_some _ _).symm.trans H; with_reducible exact H2_) | with_reducible exact H | (rw [hy556]; exact H) | exact H
          have Ny556 := Aside0.mk hy556
          clear hy556
          by_cases c24 : y553.length + y556.length < 8796093022208
          ·rw [if_pos c24] at H
           have LMc24 := Aside0.mk c24
           clear c24
           obtain ⟨y560, hy560⟩ : ∃ y_ : List (S32), y_ = (y553 ++ y556) := ⟨_, rfl⟩
           replace H : (if 0 ≤ (wrap64 (a1 + 1)) then (if (wrap64 (a1 + 1)) ≤ (l0.length : Int) then ((some (l0.take ((wrap64 (a1 + 1)) : Int).toNat : List (S32))).bind fun y563 => (if y560.length + y563.length < 8796093022208 then ((some (y560 ++ y563 : List (S32))).bind fun y567 => ((spec_ParcelValid.f kj3 y550).bind fun t570 => (if t570 = true then ((spec_ParcelValid.f kj3 y567).bind fun t571 => (if t571 = true then (some (y550, y567, true)) else (some ((([] : List (S32))), (([] : List (S32))), false)))) else (some ((([] : List (S32))), (([] : List (S32))), false))))) else (none))) else (none)) else (none)) = some (r1, r2, r3) := by first | (rw [hy560]; with_reducible exact H) | (have H2_ := (Option.bind_some _ _).symm.trans H; rw [hy560]; with_reducible exact H2_) | (have H2_ := (Option.bind_some _ _).symm.trans H; with_reducible exact H2_) | with_reducible exact H | (rw [hy560]; exact H) | exact H
           have Ny560 := Aside0.mk hy560
           clear hy560
           obtain ⟨ji25, hji25⟩ : ∃ j_ : Int, (wrap64 (a1 + 1)) = j_ := ⟨_, rfl⟩
           replace H : (if 0 ≤ (ji25) then (if (ji25) ≤ (l0.length : Int) then ((some (l0.take ((ji25) : Int).toNat : List (S32))).bind fun y563 => (if y560.length + y563.length < 8796093022208 then ((some (y560 ++ y563 : List (S32))).bind fun y567 => ((spec_ParcelValid.f kj3 y550).bind fun t570 => (if t570 = true then ((spec_ParcelValid.f kj3 y567).bind fun t571 => (if t571 = true then (some (y550, y567, true)) else (some ((([] : List (S32))), (([] : List (S32))), false)))) else (some ((([] : List (S32))), (([] : List (S32))), false))))) else (none))) else (none)) else (none)) = some (r1, r2, r3) := by first | (rw [hji25] at H; exact H) | (simp only [hji25] at H ⊢; exact H)
           have hji25w : (IntKind.i64.wrap (a1 + 1)) = ji25 := (i64_w _).trans hji25
           by_cases c26 : 0 ≤ (ji25)
           ·rw [if_pos c26] at H
            have c26b0 := eq_true c26
            have c26b1 : decide (0 ≤ (ji25)) = true := decide_eq_true c26
            clear c26
            by_cases c27 : (ji25) ≤ (l0.length : Int)
            ·rw [if_pos c27] at H
             have c27b0 := eq_true c27
             have c27b1 : decide ((ji25) ≤ (l0.length : Int)) = true := decide_eq_true c27
             clear c27
             obtain ⟨y563, hy563⟩ : ∃ y_ : List (S32), y_ = (l0.take ((ji25) : Int).toNat) := ⟨_, rfl⟩
             replace H : (if y560.length + y563.length < 8796093022208 then ((some (y560 ++ y563 : List (S32))).bind fun y567 => ((spec_ParcelValid.f kj3 y550).bind fun t570 => (if t570 = true then ((spec_ParcelValid.f kj3 y567).bind fun t571 => (if t571 = true then (some (y550, y567, true)) else (some ((([] : List (S32))), (([] : List (S32))), false)))) else (some ((([] : List (S32))), (([] : List (S32))), false))))) else (none)) = some (r1, r2, r3) := by first | (rw [hy563]; with_reducible exact H) | (have H2_ := (Option.bind_some _ _).symm.trans H; rw [hy563]; with_reducible exact H2_) | (have H2_ := (Option.bind_some _ _).symm.trans H; with_reducible exact H2_) | with_reducible exact H | (rw [hy563]; exact H) | exact H
             have Ny563 := Aside0.mk hy563
             clear hy563
             by_cases c28 : y560.length + y563.length < 8796093022208
             ·rw [if_pos c28] at H
              have LMc28 := Aside0.mk c28
              clear c28
              obtain ⟨y567, hy567⟩ : ∃ y_ : List (S32), y_ = (y560 ++ y563) := ⟨_, rfl⟩
              replace H : ((spec_ParcelValid.f kj3 y550).bind fun t570 => (if t570 = true then ((spec_ParcelValid.f kj3 y567).bind fun t571 => (if t571 = true then (some (y550, y567, true)) else (some ((([] : List (S32))), (([] : List (S32))), false)))) else (some ((([] : List (S32))), (([] : List (S32))), false)))) = some (r1, r2, r3) := by first | (rw [hy567]; with_reducible exact H) | (have H2_ := (Option.bind_some _ _).symm.trans H; rw [hy567]; with_reducible exact H2_) | (have H2_ := (Option.bind_some _ _).symm.trans H; with_reducible exact H2_) | with_reducible exact H | (rw [hy567]; exact H) | exact H
              have Ny567 := Aside0.mk hy567
              clear hy567
              replace H := Option.bind_eq_some_iff.mp H
              obtain ⟨t570, A290, H⟩ := H
              replace H : (if t570 = true then ((spec_ParcelValid.f kj3 y567).bind fun t571 => (if t571 = true then (some (y550, y567, true)) else (some ((([] : List (S32))), (([] : List (S32))), false)))) else (some ((([] : List (S32))), (([] : List (S32))), false))) = some (r1, r2, r3) := H
              have A29 := Aside0.mk A290
              clear A290
              by_cases c30 : t570 = true
              ·subst c30
               have H1 : ((spec_ParcelValid.f kj3 y567).bind fun t571 => (if t571 = true then (some (y550, y567, true)) else (some ((([] : List (S32))), (([] : List (S32))), false)))) = some (r1, r2, r3) := by rw [if_pos rfl] at H; exact H
               clear H
               have H := H1
               clear H1
               replace H := Option.bind_eq_some_iff.mp H
               obtain ⟨t571, A310, H⟩ := H
               replace H : (if t571 = true then (some (y550, y567, true)) else (some ((([] : List (S32))), (([] : List (S32))), false))) = some (r1, r2, r3) := H
               have A31 := Aside0.mk A310
               clear A310
               by_cases c32 : t571 = true
               ·subst c32
                have H1 : (some (y550, y567, true)) = some (r1, r2, r3) := by rw [if_pos rfl] at H; exact H
                clear H
                have H := H1
                clear H1
                simp only [Option.some.injEq, Prod.mk.injEq] at H
                obtain ⟨rfl, rfl, rfl⟩ := H
                try go_wp2_with (first | ((with_reducible refine gate_dst (N := 31) rfl ?_); (try (refine gate_guard (by rfl) ?_; dsimp only)); refine Kd.R_lit k32 _ 32 ?hg (N := 31) ?hd (xs := ([] : List (S32))) (inner := []) (ok := fun _ => True) (okp := fun _ => True) ?hr ?hp (fun _ hk => hk) trivial (Below.refl _ _) (Nat.le_refl _) (by simp) ?_; (case hd => rfl); (case hg => rfl); (case hr => exact qq22); (case hp => exact (Reps.none _ _)); intro v544 w33 ho34 hb hg_ hnew_; clear hg_ hnew_; (first | rw [← Ny543.out] at ho34 | (simp only [Int.reduceToNat] at ho34; rw [← Ny543.out] at ho34)); have n0_ := Aside0.mk (Kd.R_lower ho34 (below_size qq1)); have n1_ := Aside0.mk (below_step qq1 hb); clear HB; have HO545 := n0_; have HB := n1_; clear n0_ n1_; clear hb ho34; have q35 : ((wrap64 (a2 + 1)) : Int) ≤ ((l0.length : Int) : Int) := of_decide_eq_true qq14; obtain ⟨i035, hi035, _, hsz35, _⟩ := info_parts info32; have hroom35 : l0.length ≤ c0 := HC0.out; have hC35 : Kd.C k32 _ A0 l0.length l0 := HR0.out; have ql35 : (a1 : Int) ≤ ((wrap64 (a2 + 1)) : Int) := of_decide_eq_true qq14; have q035 : (0 : Int) ≤ (a1 : Int) := of_decide_eq_true qq14; have hcut35 := cut_mid (P := Try.prog) 23 32 .i64 .i64 Try.underlying23 hi035 2 hsz35 A0 l0.length c0 a1 (wrap64 (a2 + 1)) q035 ql35 q35 hroom35; have hr35 := Kd.C_mid (lo := (a1 : Int).toNat) (hi := ((wrap64 (a2 + 1)) : Int).toNat) (c := c0) hC35 (by omega) (by omega) hroom35; obtain ⟨A35, hA35⟩ : ∃ Az_, Az_ = (if c0 = (a1 : Int).toNat then A0 else (A0 : Option Addr).map (·.add ((a1 : Int).toNat * 2))) := ⟨_, rfl⟩; obtain ⟨c35, hc35⟩ : ∃ cz_, cz_ = c0 - (a1 : Int).toNat := ⟨_, rfl⟩; have hy35 : y546.length = ((wrap64 (a2 + 1)) : Int).toNat - (a1 : Int).toNat := (qq69 Ny546.out); rw [show ((l0).take ((wrap64 (a2 + 1)) : Int).toNat).drop (a1 : Int).toNat = y546 from Ny546.out.symm] at hr35; replace hr35 : Kd.C k32 _ A35 y546.length y546 := (by rw [hA35]; exact hr35); rw [← hy35, ← hA35, ← hc35] at hcut35; have HR549 := Aside0.mk hr35; have HC549 := Aside0.mk (show y546.length ≤ c35 from by rw [hy35, hc35]; exact Nat.sub_le_sub_right (Nat.le_trans (by omega) hroom35) _); clear hr35 hC35 hroom35 hi035 hsz35 hc35; have KY35 := Aside0.mk hy35; have KA35 := Aside0.mk hA35; clear hy35 hA35; replace q35 := eq_true q35) | ((with_reducible refine gate_builtin (b := .append) (xs := #[.tmp 31, .tmp 36]) rfl ?_); (try (refine gate_guard (by rfl) ?_; dsimp only)); at_builtin; refine Kd.R_append_rows k32 (w0 := w) w.heap.size rfl (.tmp 31) (.tmp 36) 23 32 (.agg #[(.int .i64 0), (.int .i64 0)]) 16 rfl Try.underlying23 info32 rfl (by decide) (by omega) v544 y543 y546 _ _ _ (fun _ => True) (fun _ => False) rfl rfl ?aO ?aR (fun _ _ h => h) (fun _ h => h.elim) ?aF ?aB ?aS ?aL ?_; (case aR => exact qq15 HR549.out HB.out); (case aB => exact qq1); (case aF => exact qq87); (case aO => exact (qq2 HO545.out)); (case aS => exact (below_size qq1)); (case aL => have := LMc21.out; omega); intro v551 w36 ho hb hg hat; rw [← Ny550.out] at ho; have n0_ := Aside0.mk (hb); have n1_ := Aside0.mk (ho); clear HB; clear HO545; have HB := n0_; have HO552 := n1_; clear n0_ n1_; clear ho hb hg hat))
                have n0_ := Aside0.mk (Kd.R_drew HO552.out)
                have n1_ := Aside0.mk (below_drew1 HB.out)
                clear HO552
                clear HB
                have HO552 := n0_
                have HB := n1_
                clear n0_ n1_
                have q38 : (a2 : Int) ≤ ((l0.length : Int) : Int) := of_decide_eq_true qq14
                obtain ⟨i038, hi038, _, hsz38, _⟩ := info_parts info32
                have hroom38 : l0.length ≤ c0 := HC0.out
                have hC38 : Kd.C k32 _ A0 l0.length l0 := HR0.out
                have q038 : (0 : Int) ≤ (a2 : Int) := of_decide_eq_true qq14
                have hcut38 := cut_from (P := Try.prog) 23 32 .i64 Try.underlying23 hi038 2 hsz38 A0 l0.length c0 a2 q038 q38
                have hr38 := Kd.C_drop (m := (a2 : Int).toNat) (c := c0) hC38 (by omega) hroom38
                obtain ⟨A38, hA38⟩ : ∃ Az_, Az_ = (if c0 = (a2 : Int).toNat then A0 else (A0 : Option Addr).map (·.add ((a2 : Int).toNat * 2))) := ⟨_, rfl⟩
                obtain ⟨c38, hc38⟩ : ∃ cz_, cz_ = c0 - (a2 : Int).toNat := ⟨_, rfl⟩
                have hy38 : y556.length = l0.length - (a2 : Int).toNat := (qq73 Ny556.out)
                rw [show (l0).drop (a2 : Int).toNat = y556 from Ny556.out.symm] at hr38
                replace hr38 : Kd.C k32 _ A38 y556.length y556 := (by rw [hA38]; exact hr38)
                rw [← hy38, ← hA38, ← hc38] at hcut38
                have HR559 := Aside0.mk hr38
                have HC559 := Aside0.mk (show y556.length ≤ c38 from by rw [hy38, hc38]; exact Nat.sub_le_sub_right hroom38 _)
                clear hr38 hC38 hroom38 hi038 hsz38 hc38
                have KY38 := Aside0.mk hy38
                have KA38 := Aside0.mk hA38
                clear hy38 hA38
                replace q38 := eq_true q38
                have q39 : ((ji25) : Int) ≤ ((l0.length : Int) : Int) := of_decide_eq_true qq14
                obtain ⟨i039, hi039, _, hsz39, _⟩ := info_parts info32
                have hroom39 : l0.length ≤ c0 := HC0.out
                have hC39 : Kd.C k32 _ A0 l0.length l0 := HR0.out
                have hcut39 := cut_to (P := Try.prog) 23 32 .i64 Try.underlying23 hi039 A0 l0.length c0 (ji25) (of_decide_eq_true qq14) q39 hroom39
                have hr39 := Kd.C_take (m := ((ji25) : Int).toNat) hC39 (by omega)
                have hy39 : y563.length = ((ji25) : Int).toNat := qq89
                rw [← Ny563.out] at hr39
                rw [← hy39] at hcut39
                have HR566 := Aside0.mk hr39
                have HC566 := Aside0.mk (show y563.length ≤ c0 from by omega)
                clear hr39 hC39 hroom39 hi039 hsz39
                have KY39 := Aside0.mk hy39
                clear hy39
                replace q39 := eq_true q39
                refine start_ (n := 11) (S := fun w' => True) (ds := []) #[false, false, false, false, false, false, false, false, false, false, false] (by kernel_rfl) rfl rfl trivial (fun hHeld => ?_); refine with_tabW spec_ParcelSplit.tab4 spec_ParcelSplit.bits4 (fun HT_ HW_ => ?_)
                generalize w36.drew = w37 at HO552 HB HR559 HR566 hHeld ⊢
                refine pure_ (i := 1) (N := some 39) #[false, true, false, false, false, false, false, false, false, false, false] rfl rfl (any_of HT_.out (by kernel_rfl)) (fun _ _ _ h => h) (Or.inl ⟨by rfl, pA_⟩) pB_ ?_
                refine pure_ (i := 2) (N := some 40) #[false, true, true, false, false, false, false, false, false, false, false] rfl rfl (any_of HT_.out (by kernel_rfl)) (fun _ _ _ h => h) (Or.inl ⟨by rfl, pA_⟩) pB_ ?_
                refine pure_ (i := 3) (N := some 41) #[false, true, true, true, false, false, false, false, false, false, false] rfl rfl (any_of HT_.out (by kernel_rfl)) (fun _ _ _ h => h) (Or.inl ⟨by rfl, pA_⟩) pB_ ?_
                refine pure_ (i := 5) (N := some 43) #[false, true, true, true, false, true, false, false, false, false, false] rfl rfl (any_of HT_.out (by kernel_rfl)) (fun _ _ _ h => h) (Or.inl ⟨by rfl, pA_⟩) pB_ ?_
                refine pure_ (i := 6) (N := some 44) #[false, true, true, true, false, true, true, false, false, false, false] rfl rfl (any_of HT_.out (by kernel_rfl)) (fun _ _ _ h => h) (Or.inl ⟨by rfl, pA_⟩) pB_ ?_
                refine pure_ (i := 7) (N := some 45) #[false, true, true, true, false, true, true, true, false, false, false] rfl rfl (any_of HT_.out (by kernel_rfl)) (fun _ _ _ h => h) (Or.inl ⟨by rfl, pA_⟩) pB_ ?_
                refine pure_ (i := 8) (N := some 46) #[false, true, true, true, false, true, true, true, true, false, false] rfl rfl (any_of HT_.out (by kernel_rfl)) (fun _ _ _ h => h) (Or.inl ⟨by rfl, pA_⟩) pB_ ?_
                refine one_ (i := 0) (N := some 38) #[true, true, true, true, false, true, true, true, true, false, false] rfl rfl (one_of HT_.out (by kernel_rfl)) (by decide) (fun K hK => ?_)
                refine Kd.R_lit_step k32 _ 32 ?hg (N := 38) ?hd (xs := ([] : List (S32))) (inner := []) (ok := fun _ => True) (okp := fun _ => True) ?hr ?hp (fun _ hk => hk) trivial (Below.refl _ _) (Nat.le_refl _) (by simp) ?_; (case hd => rfl); (case hg => rfl); (case hr => exact qq22); (case hp => exact (Reps.none _ _))
                intro v554 w40 ho41 hb hg_ hnew_
                clear hg_ hnew_
                (first | rw [← Ny553.out] at ho41 | (simp only [Int.reduceToNat] at ho41; rw [← Ny553.out] at ho41))
                have n0_ := Aside0.mk (Kd.R_elder' (qq2 HO552.out) (Kd.R_base ho41) hb)
                have n1_ := Aside0.mk (Kd.R_lower (Kd.R_new' ho41 (Kd.R_lt (qq2 HO552.out))) (below_size qq1))
                have n2_ := Aside0.mk (below_step qq1 hb)
                clear HO552
                clear HB
                have HO552 := n0_
                have HO555 := n1_
                have HB := n2_
                clear n0_ n1_ n2_
                clear hb ho41
                refine hK.out _ _ trivial (fun hHeld => ?_)
                clear hK K
                refine norm_ (a' := ?_) ?_ ?_
                rotate_left
                ·show Act.put _ (some 38) _ = _
                 simp only [Act.put, List.setIfInBounds_toArray, List.set_cons_zero, List.set_cons_succ, i64_w, i32_w]
                 rfl
                refine one_ (i := 4) (N := some 42) #[true, true, true, true, true, true, true, true, true, false, false] rfl rfl (one_of HT_.out (by kernel_rfl)) (by decide) (fun K hK => ?_)
                refine Kd.R_append_rows_step k32 (w0 := w) w.heap.size (by rfl) (.tmp 38) (.tmp 41) 23 32 (.agg #[(.int .i64 0), (.int .i64 0)]) 16 rfl Try.underlying23 info32 rfl (by decide) (by omega) v554 y553 y556 _ _ _ (fun k_ => some k_ ≠ (v551 : Value).ownBlock) (fun _ => False) rfl rfl ?aO ?aR (fun _ _ h => h) (fun _ h => h.elim) ?aF ?aB ?aS ?aL ?_
                (case aR => exact qq15 HR559.out HB.out)
                (case aB => exact qq1)
                (case aF => exact qq47 HO552.out)
                (case aO => exact (qq18 HO555.out))
                (case aS => exact (below_size qq1))
                (case aL => have := LMc24.out; omega)
                intro v561 w42 ho hb hg hat
                rw [← Ny560.out] at ho
                have n0_ := Aside0.mk (Kd.R_after (ok := (fun _ => True)) (qq2 HO552.out) hg hat)
                have n1_ := Aside0.mk (hb)
                have n2_ := Aside0.mk (ho)
                clear HO552
                clear HB
                clear HO555
                have HO552 := n0_
                have HB := n1_
                have HO562 := n2_
                clear n0_ n1_ n2_
                clear ho hb hg hat
                refine hK.out _ _ trivial (fun hHeld => ?_)
                clear hK K
                refine norm_ (a' := ?_) ?_ ?_
                rotate_left
                ·show Act.put _ (some 42) _ = _
                 simp only [Act.put, List.setIfInBounds_toArray, List.set_cons_zero, List.set_cons_succ, i64_w, i32_w]
                 rfl
                refine one_ (i := 9) (N := some 47) #[true, true, true, true, true, true, true, true, true, true, false] rfl rfl (one_of HT_.out (by kernel_rfl)) (by decide) (fun K hK => ?_)
                refine Kd.R_append_rows_step k32 (w0 := w) w.heap.size (by rfl) (.tmp 42) (.tmp 46) 23 32 (.agg #[(.int .i64 0), (.int .i64 0)]) 16 rfl Try.underlying23 info32 rfl (by decide) (by omega) v561 y560 y563 _ _ _ (fun k_ => some k_ ≠ (v551 : Value).ownBlock) (fun _ => False) rfl rfl ?aO ?aR (fun _ _ h => h) (fun _ h => h.elim) ?aF ?aB ?aS ?aL ?_
                (case aR => exact qq15 HR566.out HB.out)
                (case aB => exact qq1)
                (case aF => exact qq47 HO552.out)
                (case aO => exact (qq2 HO562.out))
                (case aS => exact (below_size qq1))
                (case aL => have := LMc28.out; omega)
                intro v568 w43 ho hb hg hat
                rw [← Ny567.out] at ho
                have n0_ := Aside0.mk (Kd.R_after (ok := (fun _ => True)) (qq2 HO552.out) hg hat)
                have n1_ := Aside0.mk (hb)
                have n2_ := Aside0.mk (ho)
                clear HO552
                clear HB
                clear HO562
                have HO552 := n0_
                have HB := n1_
                have HO569 := n2_
                clear n0_ n1_ n2_
                clear ho hb hg hat
                refine hK.out _ _ trivial (fun hHeld => ?_)
                clear hK K
                refine norm_ (a' := ?_) ?_ ?_
                rotate_left
                ·show Act.put _ (some 47) _ = _
                 simp only [Act.put, List.setIfInBounds_toArray, List.set_cons_zero, List.set_cons_succ, i64_w, i32_w]
                 rfl
                refine pure_ (i := 10) (N := some 10) #[true, true, true, true, true, true, true, true, true, true, true] rfl rfl (any_of HT_.out (by kernel_rfl)) (fun _ _ _ h => h) (Or.inl ⟨by rfl, pA_⟩) pB_ ?_
                refine done_ (done_of HT_.out (by kernel_rfl)) ?_
                obtain ⟨Ao44, co44, eo44⟩ := Kd.R_slice HO552.out
                subst eo44
                try go_wp2_with (first | ((with_reducible refine gate_callee (f := 22) rfl ?_); refine goesL_ (some 49) rfl rfl Try.func22 (by kernel_rfl) rfl #[.slice Ao44 y550.length co44] rfl qq3 ?_; (with_reducible refine (spec_ParcelValid.calls kj3 _ _ y550 true _ ?side1 ?side2 A29.out).mono ?_); (case side1 => exact qq11 HO552.out); (case side2 => exact qq62 HO552.out); rintro e w45 ⟨rfl, hb⟩; refine ⟨_, rfl, ?_⟩; have n0_ := Aside0.mk (Kd.R_below (qq2 HO552.out) hb); have n1_ := Aside0.mk (Kd.R_below (qq2 HO569.out) hb); have n2_ := Aside0.mk (below_step qq1 hb); clear HO552; clear HO569; clear HB; have HO552 := n0_; have HO569 := n1_; have HB := n2_; clear n0_ n1_ n2_; (try clear hb); (try clear hb2); (try clear hk); (try clear hi); obtain ⟨Ao46, co46, eo46⟩ := Kd.R_slice HO569.out; subst eo46) | (go_at_call 22; (with_reducible refine (spec_ParcelValid.calls kj3 _ _ y567 true _ ?side1 ?side2 A31.out).mono ?_); (case side1 => exact qq11 HO569.out); (case side2 => exact qq62 HO569.out); rintro e w47 ⟨rfl, hb⟩; have n0_ := Aside0.mk (Kd.R_below (qq2 HO552.out) hb); have n1_ := Aside0.mk (Kd.R_below (qq2 HO569.out) hb); have n2_ := Aside0.mk (below_step qq1 hb); clear HO552; clear HO569; clear HB; have HO552 := n0_; have HO569 := n1_; have HB := n2_; clear n0_ n1_ n2_; (try clear hb); (try clear hb2); (try clear hk); (try clear hi)))
                go_ret3
                exact ⟨_, _, qq39, qq18 HO552.out, qq2 HO569.out, qq1⟩
               ·replace c32 := Bool.eq_false_iff.mpr c32
                subst c32
                have H1 : (some ((([] : List (S32))), (([] : List (S32))), false)) = some (r1, r2, r3) := by rw [if_neg (show ¬ (false = true) by decide)] at H; exact H
                clear H
                have H := H1
                clear H1
                obtain ⟨y572, hy572⟩ : ∃ y_ : List (S32), y_ = (([] : List (S32))) := ⟨_, rfl⟩
                replace H : (some (y572, (([] : List (S32))), false)) = some (r1, r2, r3) := by first | (rw [hy572]; with_reducible exact H) | (have H2_ := (Option.bind_some _ _).symm.trans H; rw [hy572]; with_reducible exact H2_) | (have H2_ := (Option.bind_some _ _).symm.trans H; with_reducible exact H2_) | with_reducible exact H | (rw [hy572]; exact H) | exact H
                have Ny572 := Aside0.mk hy572
                clear hy572
                obtain ⟨y575, hy575⟩ : ∃ y_ : List (S32), y_ = (([] : List (S32))) := ⟨_, rfl⟩
                replace H : (some (y572, y575, false)) = some (r1, r2, r3) := by first | (rw [hy575]; with_reducible exact H) | (have H2_ := (Option.bind_some _ _).symm.trans H; rw [hy575]; with_reducible exact H2_) | (have H2_ := (Option.bind_some _ _).symm.trans H; with_reducible exact H2_) | with_reducible exact H | (rw [hy575]; exact H) | exact H
                have Ny575 := Aside0.mk hy575
                clear hy575
                simp only [Option.some.injEq, Prod.mk.injEq] at H
                obtain ⟨rfl, rfl, rfl⟩ := H
                try go_wp2_with (first | ((with_reducible refine gate_dst (N := 31) rfl ?_); (try (refine gate_guard (by rfl) ?_; dsimp only)); refine Kd.R_lit k32 _ 32 ?hg (N := 31) ?hd (xs := ([] : List (S32))) (inner := []) (ok := fun _ => True) (okp := fun _ => True) ?hr ?hp (fun _ hk => hk) trivial (Below.refl _ _) (Nat.le_refl _) (by simp) ?_; (case hd => rfl); (case hg => rfl); (case hr => exact qq22); (case hp => exact (Reps.none _ _)); intro v544 w48 ho49 hb hg_ hnew_; clear hg_ hnew_; (first | rw [← Ny543.out] at ho49 | (simp only [Int.reduceToNat] at ho49; rw [← Ny543.out] at ho49)); have n0_ := Aside0.mk (Kd.R_lower ho49 (below_size qq1)); have n1_ := Aside0.mk (below_step qq1 hb); clear HB; have HO545 := n0_; have HB := n1_; clear n0_ n1_; clear hb ho49; have q50 : ((wrap64 (a2 + 1)) : Int) ≤ ((l0.length : Int) : Int) := of_decide_eq_true qq14; obtain ⟨i050, hi050, _, hsz50, _⟩ := info_parts info32; have hroom50 : l0.length ≤ c0 := HC0.out; have hC50 : Kd.C k32 _ A0 l0.length l0 := HR0.out; have ql50 : (a1 : Int) ≤ ((wrap64 (a2 + 1)) : Int) := of_decide_eq_true qq14; have q050 : (0 : Int) ≤ (a1 : Int) := of_decide_eq_true qq14; have hcut50 := cut_mid (P := Try.prog) 23 32 .i64 .i64 Try.underlying23 hi050 2 hsz50 A0 l0.length c0 a1 (wrap64 (a2 + 1)) q050 ql50 q50 hroom50; have hr50 := Kd.C_mid (lo := (a1 : Int).toNat) (hi := ((wrap64 (a2 + 1)) : Int).toNat) (c := c0) hC50 (by omega) (by omega) hroom50; obtain ⟨A50, hA50⟩ : ∃ Az_, Az_ = (if c0 = (a1 : Int).toNat then A0 else (A0 : Option Addr).map (·.add ((a1 : Int).toNat * 2))) := ⟨_, rfl⟩; obtain ⟨c50, hc50⟩ : ∃ cz_, cz_ = c0 - (a1 : Int).toNat := ⟨_, rfl⟩; have hy50 : y546.length = ((wrap64 (a2 + 1)) : Int).toNat - (a1 : Int).toNat := (qq69 Ny546.out); rw [show ((l0).take ((wrap64 (a2 + 1)) : Int).toNat).drop (a1 : Int).toNat = y546 from Ny546.out.symm] at hr50; replace hr50 : Kd.C k32 _ A50 y546.length y546 := (by rw [hA50]; exact hr50); rw [← hy50, ← hA50, ← hc50] at hcut50; have HR549 := Aside0.mk hr50; have HC549 := Aside0.mk (show y546.length ≤ c50 from by rw [hy50, hc50]; exact Nat.sub_le_sub_right (Nat.le_trans (by omega) hroom50) _); clear hr50 hC50 hroom50 hi050 hsz50 hc50; have KY50 := Aside0.mk hy50; have KA50 := Aside0.mk hA50; clear hy50 hA50; replace q50 := eq_true q50) | ((with_reducible refine gate_builtin (b := .append) (xs := #[.tmp 31, .tmp 36]) rfl ?_); (try (refine gate_guard (by rfl) ?_; dsimp only)); at_builtin; refine Kd.R_append_rows k32 (w0 := w) w.heap.size rfl (.tmp 31) (.tmp 36) 23 32 (.agg #[(.int .i64 0), (.int .i64 0)]) 16 rfl Try.underlying23 info32 rfl (by decide) (by omega) v544 y543 y546 _ _ _ (fun _ => True) (fun _ => False) rfl rfl ?aO ?aR (fun _ _ h => h) (fun _ h => h.elim) ?aF ?aB ?aS ?aL ?_; (case aR => exact qq15 HR549.out HB.out); (case aB => exact qq1); (case aF => exact qq87); (case aO => exact (qq2 HO545.out)); (case aS => exact (below_size qq1)); (case aL => have := LMc21.out; omega); intro v551 w51 ho hb hg hat; rw [← Ny550.out] at ho; have n0_ := Aside0.mk (hb); have n1_ := Aside0.mk (ho); clear HB; clear HO545; have HB := n0_; have HO552 := n1_; clear n0_ n1_; clear ho hb hg hat))
                have n0_ := Aside0.mk (Kd.R_drew HO552.out)
                have n1_ := Aside0.mk (below_drew1 HB.out)
                clear HO552
                clear HB
                have HO552 := n0_
                have HB := n1_
                clear n0_ n1_
                have q53 : (a2 : Int) ≤ ((l0.length : Int) : Int) := of_decide_eq_true qq14
                obtain ⟨i053, hi053, _, hsz53, _⟩ := info_parts info32
                have hroom53 : l0.length ≤ c0 := HC0.out
                have hC53 : Kd.C k32 _ A0 l0.length l0 := HR0.out
                have q053 : (0 : Int) ≤ (a2 : Int) := of_decide_eq_true qq14
                have hcut53 := cut_from (P := Try.prog) 23 32 .i64 Try.underlying23 hi053 2 hsz53 A0 l0.length c0 a2 q053 q53
                have hr53 := Kd.C_drop (m := (a2 : Int).toNat) (c := c0) hC53 (by omega) hroom53
                obtain ⟨A53, hA53⟩ : ∃ Az_, Az_ = (if c0 = (a2 : Int).toNat then A0 else (A0 : Option Addr).map (·.add ((a2 : Int).toNat * 2))) := ⟨_, rfl⟩
                obtain ⟨c53, hc53⟩ : ∃ cz_, cz_ = c0 - (a2 : Int).toNat := ⟨_, rfl⟩
                have hy53 : y556.length = l0.length - (a2 : Int).toNat := (qq73 Ny556.out)
                rw [show (l0).drop (a2 : Int).toNat = y556 from Ny556.out.symm] at hr53
                replace hr53 : Kd.C k32 _ A53 y556.length y556 := (by rw [hA53]; exact hr53)
                rw [← hy53, ← hA53, ← hc53] at hcut53
                have HR559 := Aside0.mk hr53
                have HC559 := Aside0.mk (show y556.length ≤ c53 from by rw [hy53, hc53]; exact Nat.sub_le_sub_right hroom53 _)
                clear hr53 hC53 hroom53 hi053 hsz53 hc53
                have KY53 := Aside0.mk hy53
                have KA53 := Aside0.mk hA53
                clear hy53 hA53
                replace q53 := eq_true q53
                have q54 : ((ji25) : Int) ≤ ((l0.length : Int) : Int) := of_decide_eq_true qq14
                obtain ⟨i054, hi054, _, hsz54, _⟩ := info_parts info32
                have hroom54 : l0.length ≤ c0 := HC0.out
                have hC54 : Kd.C k32 _ A0 l0.length l0 := HR0.out
                have hcut54 := cut_to (P := Try.prog) 23 32 .i64 Try.underlying23 hi054 A0 l0.length c0 (ji25) (of_decide_eq_true qq14) q54 hroom54
                have hr54 := Kd.C_take (m := ((ji25) : Int).toNat) hC54 (by omega)
                have hy54 : y563.length = ((ji25) : Int).toNat := qq89
                rw [← Ny563.out] at hr54
                rw [← hy54] at hcut54
                have HR566 := Aside0.mk hr54
                have HC566 := Aside0.mk (show y563.length ≤ c0 from by omega)
                clear hr54 hC54 hroom54 hi054 hsz54
                have KY54 := Aside0.mk hy54
                clear hy54
                replace q54 := eq_true q54
                refine start_ (n := 11) (S := fun w' => True) (ds := []) #[false, false, false, false, false, false, false, false, false, false, false] (by kernel_rfl) rfl rfl trivial (fun hHeld => ?_); refine with_tabW spec_ParcelSplit.tab4 spec_ParcelSplit.bits4 (fun HT_ HW_ => ?_)
                generalize w51.drew = w52 at HO552 HB HR559 HR566 hHeld ⊢
                refine pure_ (i := 1) (N := some 39) #[false, true, false, false, false, false, false, false, false, false, false] rfl rfl (any_of HT_.out (by kernel_rfl)) (fun _ _ _ h => h) (Or.inl ⟨by rfl, pA_⟩) pB_ ?_
                refine pure_ (i := 2) (N := some 40) #[false, true, true, false, false, false, false, false, false, false, false] rfl rfl (any_of HT_.out (by kernel_rfl)) (fun _ _ _ h => h) (Or.inl ⟨by rfl, pA_⟩) pB_ ?_
                refine pure_ (i := 3) (N := some 41) #[false, true, true, true, false, false, false, false, false, false, false] rfl rfl (any_of HT_.out (by kernel_rfl)) (fun _ _ _ h => h) (Or.inl ⟨by rfl, pA_⟩) pB_ ?_
                refine pure_ (i := 5) (N := some 43) #[false, true, true, true, false, true, false, false, false, false, false] rfl rfl (any_of HT_.out (by kernel_rfl)) (fun _ _ _ h => h) (Or.inl ⟨by rfl, pA_⟩) pB_ ?_
                refine pure_ (i := 6) (N := some 44) #[false, true, true, true, false, true, true, false, false, false, false] rfl rfl (any_of HT_.out (by kernel_rfl)) (fun _ _ _ h => h) (Or.inl ⟨by rfl, pA_⟩) pB_ ?_
                refine pure_ (i := 7) (N := some 45) #[false, true, true, true, false, true, true, true, false, false, false] rfl rfl (any_of HT_.out (by kernel_rfl)) (fun _ _ _ h => h) (Or.inl ⟨by rfl, pA_⟩) pB_ ?_
                refine pure_ (i := 8) (N := some 46) #[false, true, true, true, false, true, true, true, true, false, false] rfl rfl (any_of HT_.out (by kernel_rfl)) (fun _ _ _ h => h) (Or.inl ⟨by rfl, pA_⟩) pB_ ?_
                refine one_ (i := 0) (N := some 38) #[true, true, true, true, false, true, true, true, true, false, false] rfl rfl (one_of HT_.out (by kernel_rfl)) (by decide) (fun K hK => ?_)
                refine Kd.R_lit_step k32 _ 32 ?hg (N := 38) ?hd (xs := ([] : List (S32))) (inner := []) (ok := fun _ => True) (okp := fun _ => True) ?hr ?hp (fun _ hk => hk) trivial (Below.refl _ _) (Nat.le_refl _) (by simp) ?_; (case hd => rfl); (case hg => rfl); (case hr => exact qq22); (case hp => exact (Reps.none _ _))
                intro v554 w55 ho56 hb hg_ hnew_
                clear hg_ hnew_
                (first | rw [← Ny553.out] at ho56 | (simp only [Int.reduceToNat] at ho56; rw [← Ny553.out] at ho56))
                have n0_ := Aside0.mk (Kd.R_elder' (qq2 HO552.out) (Kd.R_base ho56) hb)
                have n1_ := Aside0.mk (Kd.R_lower (Kd.R_new' ho56 (Kd.R_lt (qq2 HO552.out))) (below_size qq1))
                have n2_ := Aside0.mk (below_step qq1 hb)
                clear HO552
                clear HB
                have HO552 := n0_
                have HO555 := n1_
                have HB := n2_
                clear n0_ n1_ n2_
                clear hb ho56
                refine hK.out _ _ trivial (fun hHeld => ?_)
                clear hK K
                refine norm_ (a' := ?_) ?_ ?_
                rotate_left
                ·show Act.put _ (some 38) _ = _
                 simp only [Act.put, List.setIfInBounds_toArray, List.set_cons_zero, List.set_cons_succ, i64_w, i32_w]
                 rfl
                refine one_ (i := 4) (N := some 42) #[true, true, true, true, true, true, true, true, true, false, false] rfl rfl (one_of HT_.out (by kernel_rfl)) (by decide) (fun K hK => ?_)
                refine Kd.R_append_rows_step k32 (w0 := w) w.heap.size (by rfl) (.tmp 38) (.tmp 41) 23 32 (.agg #[(.int .i64 0), (.int .i64 0)]) 16 rfl Try.underlying23 info32 rfl (by decide) (by omega) v554 y553 y556 _ _ _ (fun k_ => some k_ ≠ (v551 : Value).ownBlock) (fun _ => False) rfl rfl ?aO ?aR (fun _ _ h => h) (fun _ h => h.elim) ?aF ?aB ?aS ?aL ?_
                (case aR => exact qq15 HR559.out HB.out)
                (case aB => exact qq1)
                (case aF => exact qq47 HO552.out)
                (case aO => exact (qq18 HO555.out))
                (case aS => exact (below_size qq1))
                (case aL => have := LMc24.out; omega)
                intro v561 w57 ho hb hg hat
                rw [← Ny560.out] at ho
                have n0_ := Aside0.mk (Kd.R_after (ok := (fun _ => True)) (qq2 HO552.out) hg hat)
                have n1_ := Aside0.mk (hb)
                have n2_ := Aside0.mk (ho)
                clear HO552
                clear HB
                clear HO555
                have HO552 := n0_
                have HB := n1_
                have HO562 := n2_
                clear n0_ n1_ n2_
                clear ho hb hg hat
                refine hK.out _ _ trivial (fun hHeld => ?_)
                clear hK K
                refine norm_ (a' := ?_) ?_ ?_
                rotate_left
                ·show Act.put _ (some 42) _ = _
                 simp only [Act.put, List.setIfInBounds_toArray, List.set_cons_zero, List.set_cons_succ, i64_w, i32_w]
                 rfl
                refine one_ (i := 9) (N := some 47) #[true, true, true, true, true, true, true, true, true, true, false] rfl rfl (one_of HT_.out (by kernel_rfl)) (by decide) (fun K hK => ?_)
                refine Kd.R_append_rows_step k32 (w0 := w) w.heap.size (by rfl) (.tmp 42) (.tmp 46) 23 32 (.agg #[(.int .i64 0), (.int .i64 0)]) 16 rfl Try.underlying23 info32 rfl (by decide) (by omega) v561 y560 y563 _ _ _ (fun k_ => some k_ ≠ (v551 : Value).ownBlock) (fun _ => False) rfl rfl ?aO ?aR (fun _ _ h => h) (fun _ h => h.elim) ?aF ?aB ?aS ?aL ?_
                (case aR => exact qq15 HR566.out HB.out)
                (case aB => exact qq1)
                (case aF => exact qq47 HO552.out)
                (case aO => exact (qq2 HO562.out))
                (case aS => exact (below_size qq1))
                (case aL => have := LMc28.out; omega)
                intro v568 w58 ho hb hg hat
                rw [← Ny567.out] at ho
                have n0_ := Aside0.mk (Kd.R_after (ok := (fun _ => True)) (qq2 HO552.out) hg hat)
                have n1_ := Aside0.mk (hb)
                have n2_ := Aside0.mk (ho)
                clear HO552
                clear HB
                clear HO562
                have HO552 := n0_
                have HB := n1_
                have HO569 := n2_
                clear n0_ n1_ n2_
                clear ho hb hg hat
                refine hK.out _ _ trivial (fun hHeld => ?_)
                clear hK K
                refine norm_ (a' := ?_) ?_ ?_
                rotate_left
                ·show Act.put _ (some 47) _ = _
                 simp only [Act.put, List.setIfInBounds_toArray, List.set_cons_zero, List.set_cons_succ, i64_w, i32_w]
                 rfl
                refine pure_ (i := 10) (N := some 10) #[true, true, true, true, true, true, true, true, true, true, true] rfl rfl (any_of HT_.out (by kernel_rfl)) (fun _ _ _ h => h) (Or.inl ⟨by rfl, pA_⟩) pB_ ?_
                refine done_ (done_of HT_.out (by kernel_rfl)) ?_
                obtain ⟨Ao59, co59, eo59⟩ := Kd.R_slice HO552.out
                subst eo59
                try go_wp2_with (first | ((with_reducible refine gate_callee (f := 22) rfl ?_); refine goesL_ (some 49) rfl rfl Try.func22 (by kernel_rfl) rfl #[.slice Ao59 y550.length co59] rfl qq3 ?_; (with_reducible refine (spec_ParcelValid.calls kj3 _ _ y550 true _ ?side1 ?side2 A29.out).mono ?_); (case side1 => exact qq11 HO552.out); (case side2 => exact qq62 HO552.out); rintro e w60 ⟨rfl, hb⟩; refine ⟨_, rfl, ?_⟩; have n0_ := Aside0.mk (Kd.R_below (qq2 HO552.out) hb); have n1_ := Aside0.mk (Kd.R_below (qq2 HO569.out) hb); have n2_ := Aside0.mk (below_step qq1 hb); clear HO552; clear HO569; clear HB; have HO552 := n0_; have HO569 := n1_; have HB := n2_; clear n0_ n1_ n2_; (try clear hb); (try clear hb2); (try clear hk); (try clear hi); obtain ⟨Ao61, co61, eo61⟩ := Kd.R_slice HO569.out; subst eo61) | (go_at_call 22; (with_reducible refine (spec_ParcelValid.calls kj3 _ _ y567 false _ ?side1 ?side2 A31.out).mono ?_); (case side1 => exact qq11 HO569.out); (case side2 => exact qq62 HO569.out); rintro e w62 ⟨rfl, hb⟩; have n0_ := Aside0.mk (Kd.R_below (qq2 HO552.out) hb); have n1_ := Aside0.mk (Kd.R_below (qq2 HO569.out) hb); have n2_ := Aside0.mk (below_step qq1 hb); clear HO552; clear HO569; clear HB; have HO552 := n0_; have HO569 := n1_; have HB := n2_; clear n0_ n1_ n2_; (try clear hb); (try clear hb2); (try clear hk); (try clear hi)) | ((with_reducible refine gate_dst (N := 56) rfl ?_); (try (refine gate_guard (by rfl) ?_; dsimp only)); refine Kd.R_lit k32 _ 32 ?hg (N := 56) ?hd (xs := ([] : List (S32))) (inner := []) (ok := fun _ => True) (okp := fun _ => True) ?hr ?hp (fun _ hk => hk) trivial (Below.refl _ _) (Nat.le_refl _) (by simp) ?_; (case hd => rfl); (case hg => rfl); (case hr => exact qq22); (case hp => exact (Reps.none _ _)); intro v573 w63 ho64 hb hg_ hnew_; clear hg_ hnew_; (first | rw [← Ny572.out] at ho64 | (simp only [Int.reduceToNat] at ho64; rw [← Ny572.out] at ho64)); have n0_ := Aside0.mk (Kd.R_elder' (qq2 HO552.out) (Kd.R_base ho64) hb); have n1_ := Aside0.mk (Kd.R_elder' (qq2 HO569.out) (Kd.R_base ho64) hb); have n2_ := Aside0.mk (Kd.R_lower (Kd.R_new' (Kd.R_new' ho64 (Kd.R_lt (qq2 HO552.out))) (Kd.R_lt (qq2 HO569.out))) (below_size qq1)); have n3_ := Aside0.mk (below_step qq1 hb); clear HO552; clear HO569; clear HB; have HO552 := n0_; have HO569 := n1_; have HO574 := n2_; have HB := n3_; clear n0_ n1_ n2_ n3_; clear hb ho64) | ((with_reducible refine gate_dst (N := 57) rfl ?_); (try (refine gate_guard (by rfl) ?_; dsimp only)); refine Kd.R_lit k32 _ 32 ?hg (N := 57) ?hd (xs := ([] : List (S32))) (inner := []) (ok := fun _ => True) (okp := fun _ => True) ?hr ?hp (fun _ hk => hk) trivial (Below.refl _ _) (Nat.le_refl _) (by simp) ?_; (case hd => rfl); (case hg => rfl); (case hr => exact qq22); (case hp => exact (Reps.none _ _)); intro v576 w65 ho66 hb hg_ hnew_; clear hg_ hnew_; (first | rw [← Ny575.out] at ho66 | (simp only [Int.reduceToNat] at ho66; rw [← Ny575.out] at ho66)); have n0_ := Aside0.mk (Kd.R_elder' (qq2 HO552.out) (Kd.R_base ho66) hb); have n1_ := Aside0.mk (Kd.R_elder' (qq2 HO569.out) (Kd.R_base ho66) hb); have n2_ := Aside0.mk (Kd.R_elder' (qq2 HO574.out) (Kd.R_base ho66) hb); have n3_ := Aside0.mk (Kd.R_lower (Kd.R_new' (Kd.R_new' (Kd.R_new' ho66 (Kd.R_lt (qq2 HO552.out))) (Kd.R_lt (qq2 HO569.out))) (Kd.R_lt (qq2 HO574.out))) (below_size qq1)); have n4_ := Aside0.mk (below_step qq1 hb); clear HO552; clear HO569; clear HO574; clear HB; have HO552 := n0_; have HO569 := n1_; have HO574 := n2_; have HO577 := n3_; have HB := n4_; clear n0_ n1_ n2_ n3_ n4_; clear hb ho66))
                go_ret3
                exact ⟨_, _, qq39, qq18 HO574.out, qq18 HO577.out, qq1⟩
              ·replace c30 := Bool.eq_false_iff.mpr c30
               subst c30
               have H1 : (some ((([] : List (S32))), (([] : List (S32))), false)) = some (r1, r2, r3) := by rw [if_neg (show ¬ (false = true) by decide)] at H; exact H
               clear H
               have H := H1
               clear H1
               obtain ⟨y578, hy578⟩ : ∃ y_ : List (S32), y_ = (([] : List (S32))) := ⟨_, rfl⟩
               replace H : (some (y578, (([] : List (S32))), false)) = some (r1, r2, r3) := by first | (rw [hy578]; with_reducible exact H) | (have H2_ := (Option.bind_some _ _).symm.trans H; rw [hy578]; with_reducible exact H2_) | (have H2_ := (Option.bind_some _ _).symm.trans H; with_reducible exact H2_) | with_reducible exact H | (rw [hy578]; exact H) | exact H
               have Ny578 := Aside0.mk hy578
               clear hy578
               obtain ⟨y581, hy581⟩ : ∃ y_ : List (S32), y_ = (([] : List (S32))) := ⟨_, rfl⟩
               replace H : (some (y578, y581, false)) = some (r1, r2, r3) := by first | (rw [hy581]; with_reducible exact H) | (have H2_ := (Option.bind_some _ _).symm.trans H; rw [hy581]; with_reducible exact H2_) | (have H2_ := (Option.bind_some _ _).symm.trans H; with_reducible exact H2_) | with_reducible exact H | (rw [hy581]; exact H) | exact H
               have Ny581 := Aside0.mk hy581
               clear hy581
               simp only [Option.some.injEq, Prod.mk.injEq] at H
               obtain ⟨rfl, rfl, rfl⟩ := H
               try go_wp2_with (first | ((with_reducible refine gate_dst (N := 31) rfl ?_); (try (refine gate_guard (by rfl) ?_; dsimp only)); refine Kd.R_lit k32 _ 32 ?hg (N := 31) ?hd (xs := ([] : List (S32))) (inner := []) (ok := fun _ => True) (okp := fun _ => True) ?hr ?hp (fun _ hk => hk) trivial (Below.refl _ _) (Nat.le_refl _) (by simp) ?_; (case hd => rfl); (case hg => rfl); (case hr => exact qq22); (case hp => exact (Reps.none _ _)); intro v544 w67 ho68 hb hg_ hnew_; clear hg_ hnew_; (first | rw [← Ny543.out] at ho68 | (simp only [Int.reduceToNat] at ho68; rw [← Ny543.out] at ho68)); have n0_ := Aside0.mk (Kd.R_lower ho68 (below_size qq1)); have n1_ := Aside0.mk (below_step qq1 hb); clear HB; have HO545 := n0_; have HB := n1_; clear n0_ n1_; clear hb ho68; have q69 : ((wrap64 (a2 + 1)) : Int) ≤ ((l0.length : Int) : Int) := of_decide_eq_true qq14; obtain ⟨i069, hi069, _, hsz69, _⟩ := info_parts info32; have hroom69 : l0.length ≤ c0 := HC0.out; have hC69 : Kd.C k32 _ A0 l0.length l0 := HR0.out; have ql69 : (a1 : Int) ≤ ((wrap64 (a2 + 1)) : Int) := of_decide_eq_true qq14; have q069 : (0 : Int) ≤ (a1 : Int) := of_decide_eq_true qq14; have hcut69 := cut_mid (P := Try.prog) 23 32 .i64 .i64 Try.underlying23 hi069 2 hsz69 A0 l0.length c0 a1 (wrap64 (a2 + 1)) q069 ql69 q69 hroom69; have hr69 := Kd.C_mid (lo := (a1 : Int).toNat) (hi := ((wrap64 (a2 + 1)) : Int).toNat) (c := c0) hC69 (by omega) (by omega) hroom69; obtain ⟨A69, hA69⟩ : ∃ Az_, Az_ = (if c0 = (a1 : Int).toNat then A0 else (A0 : Option Addr).map (·.add ((a1 : Int).toNat * 2))) := ⟨_, rfl⟩; obtain ⟨c69, hc69⟩ : ∃ cz_, cz_ = c0 - (a1 : Int).toNat := ⟨_, rfl⟩; have hy69 : y546.length = ((wrap64 (a2 + 1)) : Int).toNat - (a1 : Int).toNat := (qq69 Ny546.out); rw [show ((l0).take ((wrap64 (a2 + 1)) : Int).toNat).drop (a1 : Int).toNat = y546 from Ny546.out.symm] at hr69; replace hr69 : Kd.C k32 _ A69 y546.length y546 := (by rw [hA69]; exact hr69); rw [← hy69, ← hA69, ← hc69] at hcut69; have HR549 := Aside0.mk hr69; have HC549 := Aside0.mk (show y546.length ≤ c69 from by rw [hy69, hc69]; exact Nat.sub_le_sub_right (Nat.le_trans (by omega) hroom69) _); clear hr69 hC69 hroom69 hi069 hsz69 hc69; have KY69 := Aside0.mk hy69; have KA69 := Aside0.mk hA69; clear hy69 hA69; replace q69 := eq_true q69) | ((with_reducible refine gate_builtin (b := .append) (xs := #[.tmp 31, .tmp 36]) rfl ?_); (try (refine gate_guard (by rfl) ?_; dsimp only)); at_builtin; refine Kd.R_append_rows k32 (w0 := w) w.heap.size rfl (.tmp 31) (.tmp 36) 23 32 (.agg #[(.int .i64 0), (.int .i64 0)]) 16 rfl Try.underlying23 info32 rfl (by decide) (by omega) v544 y543 y546 _ _ _ (fun _ => True) (fun _ => False) rfl rfl ?aO ?aR (fun _ _ h => h) (fun _ h => h.elim) ?aF ?aB ?aS ?aL ?_; (case aR => exact qq15 HR549.out HB.out); (case aB => exact qq1); (case aF => exact qq87); (case aO => exact (qq2 HO545.out)); (case aS => exact (below_size qq1)); (case aL => have := LMc21.out; omega); intro v551 w70 ho hb hg hat; rw [← Ny550.out] at ho; have n0_ := Aside0.mk (hb); have n1_ := Aside0.mk (ho); clear HB; clear HO545; have HB := n0_; have HO552 := n1_; clear n0_ n1_; clear ho hb hg hat))
               have n0_ := Aside0.mk (Kd.R_drew HO552.out)
               have n1_ := Aside0.mk (below_drew1 HB.out)
               clear HO552
               clear HB
               have HO552 := n0_
               have HB := n1_
               clear n0_ n1_
               have q72 : (a2 : Int) ≤ ((l0.length : Int) : Int) := of_decide_eq_true qq14
               obtain ⟨i072, hi072, _, hsz72, _⟩ := info_parts info32
               have hroom72 : l0.length ≤ c0 := HC0.out
               have hC72 : Kd.C k32 _ A0 l0.length l0 := HR0.out
               have q072 : (0 : Int) ≤ (a2 : Int) := of_decide_eq_true qq14
               have hcut72 := cut_from (P := Try.prog) 23 32 .i64 Try.underlying23 hi072 2 hsz72 A0 l0.length c0 a2 q072 q72
               have hr72 := Kd.C_drop (m := (a2 : Int).toNat) (c := c0) hC72 (by omega) hroom72
               obtain ⟨A72, hA72⟩ : ∃ Az_, Az_ = (if c0 = (a2 : Int).toNat then A0 else (A0 : Option Addr).map (·.add ((a2 : Int).toNat * 2))) := ⟨_, rfl⟩
               obtain ⟨c72, hc72⟩ : ∃ cz_, cz_ = c0 - (a2 : Int).toNat := ⟨_, rfl⟩
               have hy72 : y556.length = l0.length - (a2 : Int).toNat := (qq73 Ny556.out)
               rw [show (l0).drop (a2 : Int).toNat = y556 from Ny556.out.symm] at hr72
               replace hr72 : Kd.C k32 _ A72 y556.length y556 := (by rw [hA72]; exact hr72)
               rw [← hy72, ← hA72, ← hc72] at hcut72
               have HR559 := Aside0.mk hr72
               have HC559 := Aside0.mk (show y556.length ≤ c72 from by rw [hy72, hc72]; exact Nat.sub_le_sub_right hroom72 _)
               clear hr72 hC72 hroom72 hi072 hsz72 hc72
               have KY72 := Aside0.mk hy72
               have KA72 := Aside0.mk hA72
               clear hy72 hA72
               replace q72 := eq_true q72
               have q73 : ((ji25) : Int) ≤ ((l0.length : Int) : Int) := of_decide_eq_true qq14
               obtain ⟨i073, hi073, _, hsz73, _⟩ := info_parts info32
               have hroom73 : l0.length ≤ c0 := HC0.out
               have hC73 : Kd.C k32 _ A0 l0.length l0 := HR0.out
               have hcut73 := cut_to (P := Try.prog) 23 32 .i64 Try.underlying23 hi073 A0 l0.length c0 (ji25) (of_decide_eq_true qq14) q73 hroom73
               have hr73 := Kd.C_take (m := ((ji25) : Int).toNat) hC73 (by omega)
               have hy73 : y563.length = ((ji25) : Int).toNat := qq89
               rw [← Ny563.out] at hr73
               rw [← hy73] at hcut73
               have HR566 := Aside0.mk hr73
               have HC566 := Aside0.mk (show y563.length ≤ c0 from by omega)
               clear hr73 hC73 hroom73 hi073 hsz73
               have KY73 := Aside0.mk hy73
               clear hy73
               replace q73 := eq_true q73
               refine start_ (n := 11) (S := fun w' => True) (ds := []) #[false, false, false, false, false, false, false, false, false, false, false] (by kernel_rfl) rfl rfl trivial (fun hHeld => ?_); refine with_tabW spec_ParcelSplit.tab4 spec_ParcelSplit.bits4 (fun HT_ HW_ => ?_)
               generalize w70.drew = w71 at HO552 HB HR559 HR566 hHeld ⊢
               refine pure_ (i := 1) (N := some 39) #[false, true, false, false, false, false, false, false, false, false, false] rfl rfl (any_of HT_.out (by kernel_rfl)) (fun _ _ _ h => h) (Or.inl ⟨by rfl, pA_⟩) pB_ ?_
               refine pure_ (i := 2) (N := some 40) #[false, true, true, false, false, false, false, false, false, false, false] rfl rfl (any_of HT_.out (by kernel_rfl)) (fun _ _ _ h => h) (Or.inl ⟨by rfl, pA_⟩) pB_ ?_
               refine pure_ (i := 3) (N := some 41) #[false, true, true, true, false, false, false, false, false, false, false] rfl rfl (any_of HT_.out (by kernel_rfl)) (fun _ _ _ h => h) (Or.inl ⟨by rfl, pA_⟩) pB_ ?_
               refine pure_ (i := 5) (N := some 43) #[false, true, true, true, false, true, false, false, false, false, false] rfl rfl (any_of HT_.out (by kernel_rfl)) (fun _ _ _ h => h) (Or.inl ⟨by rfl, pA_⟩) pB_ ?_
               refine pure_ (i := 6) (N := some 44) #[false, true, true, true, false, true, true, false, false, false, false] rfl rfl (any_of HT_.out (by kernel_rfl)) (fun _ _ _ h => h) (Or.inl ⟨by rfl, pA_⟩) pB_ ?_
               refine pure_ (i := 7) (N := some 45) #[false, true, true, true, false, true, true, true, false, false, false] rfl rfl (any_of HT_.out (by kernel_rfl)) (fun _ _ _ h => h) (Or.inl ⟨by rfl, pA_⟩) pB_ ?_
               refine pure_ (i := 8) (N := some 46) #[false, true, true, true, false, true, true, true, true, false, false] rfl rfl (any_of HT_.out (by kernel_rfl)) (fun _ _ _ h => h) (Or.inl ⟨by rfl, pA_⟩) pB_ ?_
               refine one_ (i := 0) (N := some 38) #[true, true, true, true, false, true, true, true, true, false, false] rfl rfl (one_of HT_.out (by kernel_rfl)) (by decide) (fun K hK => ?_)
               refine Kd.R_lit_step k32 _ 32 ?hg (N := 38) ?hd (xs := ([] : List (S32))) (inner := []) (ok := fun _ => True) (okp := fun _ => True) ?hr ?hp (fun _ hk => hk) trivial (Below.refl _ _) (Nat.le_refl _) (by simp) ?_; (case hd => rfl); (case hg => rfl); (case hr => exact qq22); (case hp => exact (Reps.none _ _))
               intro v554 w74 ho75 hb hg_ hnew_
               clear hg_ hnew_
               (first | rw [← Ny553.out] at ho75 | (simp only [Int.reduceToNat] at ho75; rw [← Ny553.out] at ho75))
               have n0_ := Aside0.mk (Kd.R_elder' (qq2 HO552.out) (Kd.R_base ho75) hb)
               have n1_ := Aside0.mk (Kd.R_lower (Kd.R_new' ho75 (Kd.R_lt (qq2 HO552.out))) (below_size qq1))
               have n2_ := Aside0.mk (below_step qq1 hb)
               clear HO552
               clear HB
               have HO552 := n0_
               have HO555 := n1_
               have HB := n2_
               clear n0_ n1_ n2_
               clear hb ho75
               refine hK.out _ _ trivial (fun hHeld => ?_)
               clear hK K
               refine norm_ (a' := ?_) ?_ ?_
               rotate_left
               ·show Act.put _ (some 38) _ = _
                simp only [Act.put, List.setIfInBounds_toArray, List.set_cons_zero, List.set_cons_succ, i64_w, i32_w]
                rfl
               refine one_ (i := 4) (N := some 42) #[true, true, true, true, true, true, true, true, true, false, false] rfl rfl (one_of HT_.out (by kernel_rfl)) (by decide) (fun K hK => ?_)
               refine Kd.R_append_rows_step k32 (w0 := w) w.heap.size (by rfl) (.tmp 38) (.tmp 41) 23 32 (.agg #[(.int .i64 0), (.int .i64 0)]) 16 rfl Try.underlying23 info32 rfl (by decide) (by omega) v554 y553 y556 _ _ _ (fun k_ => some k_ ≠ (v551 : Value).ownBlock) (fun _ => False) rfl rfl ?aO ?aR (fun _ _ h => h) (fun _ h => h.elim) ?aF ?aB ?aS ?aL ?_
               (case aR => exact qq15 HR559.out HB.out)
               (case aB => exact qq1)
               (case aF => exact qq47 HO552.out)
               (case aO => exact (qq18 HO555.out))
               (case aS => exact (below_size qq1))
               (case aL => have := LMc24.out; omega)
               intro v561 w76 ho hb hg hat
               rw [← Ny560.out] at ho
               have n0_ := Aside0.mk (Kd.R_after (ok := (fun _ => True)) (qq2 HO552.out) hg hat)
               have n1_ := Aside0.mk (hb)
               have n2_ := Aside0.mk (ho)
               clear HO552
               clear HB
               clear HO555
               have HO552 := n0_
               have HB := n1_
               have HO562 := n2_
               clear n0_ n1_ n2_
               clear ho hb hg hat
               refine hK.out _ _ trivial (fun hHeld => ?_)
               clear hK K
               refine norm_ (a' := ?_) ?_ ?_
               rotate_left
               ·show Act.put _ (some 42) _ = _
                simp only [Act.put, List.setIfInBounds_toArray, List.set_cons_zero, List.set_cons_succ, i64_w, i32_w]
                rfl
               refine one_ (i := 9) (N := some 47) #[true, true, true, true, true, true, true, true, true, true, false] rfl rfl (one_of HT_.out (by kernel_rfl)) (by decide) (fun K hK => ?_)
               refine Kd.R_append_rows_step k32 (w0 := w) w.heap.size (by rfl) (.tmp 42) (.tmp 46) 23 32 (.agg #[(.int .i64 0), (.int .i64 0)]) 16 rfl Try.underlying23 info32 rfl (by decide) (by omega) v561 y560 y563 _ _ _ (fun k_ => some k_ ≠ (v551 : Value).ownBlock) (fun _ => False) rfl rfl ?aO ?aR (fun _ _ h => h) (fun _ h => h.elim) ?aF ?aB ?aS ?aL ?_
               (case aR => exact qq15 HR566.out HB.out)
               (case aB => exact qq1)
               (case aF => exact qq47 HO552.out)
               (case aO => exact (qq2 HO562.out))
               (case aS => exact (below_size qq1))
               (case aL => have := LMc28.out; omega)
               intro v568 w77 ho hb hg hat
               rw [← Ny567.out] at ho
               have n0_ := Aside0.mk (Kd.R_after (ok := (fun _ => True)) (qq2 HO552.out) hg hat)
               have n1_ := Aside0.mk (hb)
               have n2_ := Aside0.mk (ho)
               clear HO552
               clear HB
               clear HO562
               have HO552 := n0_
               have HB := n1_
               have HO569 := n2_
               clear n0_ n1_ n2_
               clear ho hb hg hat
               refine hK.out _ _ trivial (fun hHeld => ?_)
               clear hK K
               refine norm_ (a' := ?_) ?_ ?_
               rotate_left
               ·show Act.put _ (some 47) _ = _
                simp only [Act.put, List.setIfInBounds_toArray, List.set_cons_zero, List.set_cons_succ, i64_w, i32_w]
                rfl
               refine pure_ (i := 10) (N := some 10) #[true, true, true, true, true, true, true, true, true, true, true] rfl rfl (any_of HT_.out (by kernel_rfl)) (fun _ _ _ h => h) (Or.inl ⟨by rfl, pA_⟩) pB_ ?_
               refine done_ (done_of HT_.out (by kernel_rfl)) ?_
               obtain ⟨Ao78, co78, eo78⟩ := Kd.R_slice HO552.out
               subst eo78
               try go_wp2_with (first | ((with_reducible refine gate_callee (f := 22) rfl ?_); refine goesL_ (some 49) rfl rfl Try.func22 (by kernel_rfl) rfl #[.slice Ao78 y550.length co78] rfl qq3 ?_; (with_reducible refine (spec_ParcelValid.calls kj3 _ _ y550 false _ ?side1 ?side2 A29.out).mono ?_); (case side1 => exact qq11 HO552.out); (case side2 => exact qq62 HO552.out); rintro e w79 ⟨rfl, hb⟩; refine ⟨_, rfl, ?_⟩; have n0_ := Aside0.mk (Kd.R_below (qq2 HO552.out) hb); have n1_ := Aside0.mk (Kd.R_below (qq2 HO569.out) hb); have n2_ := Aside0.mk (below_step qq1 hb); clear HO552; clear HO569; clear HB; have HO552 := n0_; have HO569 := n1_; have HB := n2_; clear n0_ n1_ n2_; (try clear hb); (try clear hb2); (try clear hk); (try clear hi)) | ((with_reducible refine gate_dst (N := 56) rfl ?_); (try (refine gate_guard (by rfl) ?_; dsimp only)); refine Kd.R_lit k32 _ 32 ?hg (N := 56) ?hd (xs := ([] : List (S32))) (inner := []) (ok := fun _ => True) (okp := fun _ => True) ?hr ?hp (fun _ hk => hk) trivial (Below.refl _ _) (Nat.le_refl _) (by simp) ?_; (case hd => rfl); (case hg => rfl); (case hr => exact qq22); (case hp => exact (Reps.none _ _)); intro v579 w80 ho81 hb hg_ hnew_; clear hg_ hnew_; (first | rw [← Ny578.out] at ho81 | (simp only [Int.reduceToNat] at ho81; rw [← Ny578.out] at ho81)); have n0_ := Aside0.mk (Kd.R_elder' (qq2 HO552.out) (Kd.R_base ho81) hb); have n1_ := Aside0.mk (Kd.R_elder' (qq2 HO569.out) (Kd.R_base ho81) hb); have n2_ := Aside0.mk (Kd.R_lower (Kd.R_new' (Kd.R_new' ho81 (Kd.R_lt (qq2 HO552.out))) (Kd.R_lt (qq2 HO569.out))) (below_size qq1)); have n3_ := Aside0.mk (below_step qq1 hb); clear HO552; clear HO569; clear HB; have HO552 := n0_; have HO569 := n1_; have HO580 := n2_; have HB := n3_; clear n0_ n1_ n2_ n3_; clear hb ho81) | ((with_reducible refine gate_dst (N := 57) rfl ?_); (try (refine gate_guard (by rfl) ?_; dsimp only)); refine Kd.R_lit k32 _ 32 ?hg (N := 57) ?hd (xs := ([] : List (S32))) (inner := []) (ok := fun _ => True) (okp := fun _ => True) ?hr ?hp (fun _ hk => hk) trivial (Below.refl _ _) (Nat.le_refl _) (by simp) ?_; (case hd => rfl); (case hg => rfl); (case hr => exact qq22); (case hp => exact (Reps.none _ _)); intro v582 w82 ho83 hb hg_ hnew_; clear hg_ hnew_; (first | rw [← Ny581.out] at ho83 | (simp only [Int.reduceToNat] at ho83; rw [← Ny581.out] at ho83)); have n0_ := Aside0.mk (Kd.R_elder' (qq2 HO552.out) (Kd.R_base ho83) hb); have n1_ := Aside0.mk (Kd.R_elder' (qq2 HO569.out) (Kd.R_base ho83) hb); have n2_ := Aside0.mk (Kd.R_elder' (qq2 HO580.out) (Kd.R_base ho83) hb); have n3_ := Aside0.mk (Kd.R_lower (Kd.R_new' (Kd.R_new' (Kd.R_new' ho83 (Kd.R_lt (qq2 HO552.out))) (Kd.R_lt (qq2 HO569.out))) (Kd.R_lt (qq2 HO580.out))) (below_size qq1)); have n4_ := Aside0.mk (below_step qq1 hb); clear HO552; clear HO569; clear HO580; clear HB; have HO552 := n0_; have HO569 := n1_; have HO580 := n2_; have HO583 := n3_; have HB := n4_; clear n0_ n1_ n2_ n3_ n4_; clear hb ho83))
               go_ret3
               exact ⟨_, _, qq39, qq18 HO580.out, qq18 HO583.out, qq1⟩
             ·rw [if_neg c28] at H
              exact absurd H (by simp)
            ·rw [if_neg c27] at H
             exact absurd H (by simp)
           ·rw [if_neg c26] at H
            exact absurd H (by simp)
          ·rw [if_neg c24] at H
           exact absurd H (by simp)
         ·rw [if_neg c23] at H
          exact absurd H (by simp)
        ·rw [if_neg c22] at H
         exact absurd H (by simp)
       ·rw [if_neg c21] at H
        exact absurd H (by simp)
      ·rw [if_neg c20] at H
       exact absurd H (by simp)
     ·rw [if_neg c19] at H
      exact absurd H (by simp)
    ·rw [if_neg c18] at H
     exact absurd H (by simp)

end Go.Proofs.Ytgdhgncdpmalcaa.Q
namespace Go.Proofs.Ytgdhgncdpmalcaa.Q
open Go.RowKit Go.Proofs.YtgdhgncdpmalcaaW.PrintWords Go.Proofs.YtgdhgncdpmalcaaW.PrintLast Go.Proofs.YtgdhgncdpmalcaaW.PrintMore
attribute [local go_sem] max2_int min2_int max_two min_two max_three min_three max_four min_four
set_option linter.unusedVariables false
set_option linter.unusedSimpArgs false

/-- A state of type 81 at block g of W; what its slices lead to came in by w0. -/
def IsS81 (w0 W : World) (g : Nat) (f0 : List Int) (f1 : Int) : Prop := ∃ A0 c0, W.heap[g]? = some (.cells #[.slice A0 f0.length c0, .int .i64 f1] 81 (0, 0)) ∧ w0.heap.size ≤ g ∧ Kd.C (Kd.int .u8) w0 A0 f0.length f0
theorem IsS81.grown {w0 W : World} {g : Nat} {f0 : List Int} {f1 : Int} {W1 : World} {row : Option Nat} (h : IsS81 w0 W g f0 f1) (hw : W.grownBy W1 row) (hne : some g ≠ row) : IsS81 w0 W1 g f0 f1 := by
 obtain ⟨A0, c0, hb, hg, hr0⟩ := h
 exact ⟨A0, c0, blk_grown hb hw hne, hg, hr0⟩
theorem IsS81.below {w0 W : World} {g : Nat} {f0 : List Int} {f1 : Int} {W1 : World} (h : IsS81 w0 W g f0 f1) (hw : Below W.heap.size W W1) : IsS81 w0 W1 g f0 f1 := h.grown (grown_of_below hw none) (by simp)
theorem IsS81.alloc {w0 W : World} {g : Nat} {f0 : List Int} {f1 : Int} (h : IsS81 w0 W g f0 f1) (o : Obj) : IsS81 w0 (W.alloc o) g f0 f1 := h.below (below_alloc (Below.refl _ _) o)
theorem IsS81.drewN {w0 W : World} {g : Nat} {f0 : List Int} {f1 : Int} (h : IsS81 w0 W g f0 f1) (m : Nat) : IsS81 w0 (W.drewN m) g f0 f1 := h
theorem IsS81.drew {w0 W : World} {g : Nat} {f0 : List Int} {f1 : Int} (h : IsS81 w0 W g f0 f1) : IsS81 w0 W.drew g f0 f1 := h
theorem IsS81.apart {w0 W : World} {g : Nat} {f0 : List Int} {f1 : Int} {α : Type} {d : Kd α} {e : Nat} {base : Nat} {ok : Nat → Prop} {v : Value} {xs : List α} (h : IsS81 w0 W g f0 f1) (ho : d.R e W base ok v xs) (ht : ∀ q, q ∈ e :: d.E → q ≠ 81) : d.R e W base (fun k => ok k ∧ k ≠ g) v xs := by
 obtain ⟨A0, c0, hb, hg, hr0⟩ := h
 exact Kd.R_types ho hb ht
theorem IsS81.own_ne {w0 W : World} {g : Nat} {f0 : List Int} {f1 : Int} {α : Type} {d : Kd α} {e : Nat} {base : Nat} {ok : Nat → Prop} {v : Value} {xs : List α} (h : IsS81 w0 W g f0 f1) (ho : d.R e W base ok v xs) (ht : e ≠ 81) : some g ≠ v.ownBlock := by
 obtain ⟨A0, c0, hb, hg, hr0⟩ := h
 exact Kd.R_ne ho hb ht
theorem IsS81.apartQ {w0 W : World} {g : Nat} {f0 : List Int} {f1 : Int} {α : Type} {d : Kd α} {e : Nat} {base : Nat} {ok : Nat → Prop} {v : Value} {xs : List α} (h : IsS81 w0 W g f0 f1) (ho : d.Q e W base ok v xs) (ht : ∀ q, q ∈ e :: d.E → q ≠ 81) : d.Q e W base (fun k => ok k ∧ k ≠ g) v xs := by
 obtain ⟨A0, c0, hb, hg, hr0⟩ := h
 exact Kd.Q_types ho hb ht
theorem IsS81.own_neQ {w0 W : World} {g : Nat} {f0 : List Int} {f1 : Int} {α : Type} {d : Kd α} {e : Nat} {base : Nat} {ok : Nat → Prop} {v : Value} {xs : List α} (h : IsS81 w0 W g f0 f1) (ho : d.Q e W base ok v xs) (ht : e ≠ 81) : some g ≠ v.ownBlock := by
 obtain ⟨A0, c0, hb, hg, hr0⟩ := h
 exact Kd.Q_ne ho hb ht
theorem IsS81.lt {w0 W : World} {g : Nat} {f0 : List Int} {f1 : Int} (h : IsS81 w0 W g f0 f1) : g < W.heap.size := by
 obtain ⟨A0, c0, hb, hg, hr0⟩ := h
 exact blk_lt hb
theorem IsS81.ge {w0 W : World} {g : Nat} {f0 : List Int} {f1 : Int} (h : IsS81 w0 W g f0 f1) : w0.heap.size ≤ g := by
 obtain ⟨A0, c0, hb, hg, hr0⟩ := h
 exact hg
theorem IsS81.far {w0 W : World} {g : Nat} {f0 : List Int} {f1 : Int} {p : Addr} (h : IsS81 w0 W g f0 f1) (hne : g ≠ p.block) (u : Value) : IsS81 w0 (W.setCell p u) g f0 f1 := by
 obtain ⟨A0, c0, hb, hg, hr0⟩ := h
 exact ⟨A0, c0, blk_far hb hne u, hg, hr0⟩
theorem cellS81_0 {W : World} {g : Nat} {A0 : Option Addr} {c0 : Nat} {f0 : List Int} {f1 : Int} (h : W.heap[g]? = some (.cells #[.slice A0 f0.length c0, .int .i64 f1] 81 (0, 0))) : W.cell? ⟨g, 0, none⟩ = some (.slice A0 f0.length c0) := (blk_cell h 0).trans rfl
theorem cellS81_1 {W : World} {g : Nat} {A0 : Option Addr} {c0 : Nat} {f0 : List Int} {f1 : Int} (h : W.heap[g]? = some (.cells #[.slice A0 f0.length c0, .int .i64 f1] 81 (0, 0))) : W.cell? ⟨g, 1, none⟩ = some (.int .i64 f1) := (blk_cell h 1).trans rfl
theorem IsS81.set_1 {w0 W : World} {g : Nat} {f0 : List Int} {f1 : Int} (h : IsS81 w0 W g f0 f1) (x : Int) : IsS81 w0 (W.setCell ⟨g, 1, none⟩ (.int .i64 x)) g f0 x := by
 obtain ⟨A0, c0, hb, hg, hr0⟩ := h
 exact ⟨A0, c0, by simpa using blk_set hb 1 (.int .i64 x), hg, hr0⟩
/-! ### spec_l6Rd_pick: function 48 -/
def spec_l6Rd_pick.j0 : Nat → Int → Bool → List Int → Int → Option (Int × Int)
 | 0, _, _, _, _ => none
 | k + 1, x1, x24, x1000, x1001 => if x24 = true then (some (0, x1001)) else (if (wrap64 (x1001 - 1)) < (x1000.length : Int) then (if 0 ≤ (wrap64 (x1001 - 1)) then (if x1 = 0 then (none) else (some (Int.tmod (wrap64 (rd x1000 (wrap64 (x1001 - 1)))) x1, x1001))) else (none)) else (if (x1000.length : Int) = 0 then (none) else (if 0 ≤ (Int.tmod (wrap64 (x1001 - 1)) (x1000.length : Int)) then (if (Int.tmod (wrap64 (x1001 - 1)) (x1000.length : Int)) < (x1000.length : Int) then (if 0 ≤ (Int.tmod (wrap64 ((wrap64 ((wrap64 (x1001 - 1)) * 7)) + 3)) (x1000.length : Int)) then (if (Int.tmod (wrap64 ((wrap64 ((wrap64 (x1001 - 1)) * 7)) + 3)) (x1000.length : Int)) < (x1000.length : Int) then (if x1 = 0 then (none) else (some (Int.tmod (Go.bits .xor .i64 (wrap64 ((wrap64 ((wrap64 ((wrap64 ((wrap64 (rd x1000 (Int.tmod (wrap64 (x1001 - 1)) (x1000.length : Int)))) * 131)) + (wrap64 ((wrap64 (rd x1000 (Int.tmod (wrap64 ((wrap64 ((wrap64 (x1001 - 1)) * 7)) + 3)) (x1000.length : Int)))) * 1117)))) + (wrap64 ((wrap64 (x1001 - 1)) * 29)))) + (wrap64 ((wrap64 (Int.tdiv (wrap64 (x1001 - 1)) (x1000.length : Int))) * 53)))) (wrap64 (Int.tdiv (wrap64 ((wrap64 ((wrap64 ((wrap64 ((wrap64 (rd x1000 (Int.tmod (wrap64 (x1001 - 1)) (x1000.length : Int)))) * 131)) + (wrap64 ((wrap64 (rd x1000 (Int.tmod (wrap64 ((wrap64 ((wrap64 (x1001 - 1)) * 7)) + 3)) (x1000.length : Int)))) * 1117)))) + (wrap64 ((wrap64 (x1001 - 1)) * 29)))) + (wrap64 ((wrap64 (Int.tdiv (wrap64 (x1001 - 1)) (x1000.length : Int))) * 53)))) 64))) x1, x1001))) else (none)) else (none)) else (none)) else (none))))
def spec_l6Rd_pick.f (k : Nat) (s0_0 : List Int) (s0_1 : Int) (a1 : Int) : Option (Int × Int) := if a1 < 1 then (spec_l6Rd_pick.j0 k a1 true s0_0 (wrap64 (s0_1 + 1))) else (spec_l6Rd_pick.j0 k a1 ((s0_0.length : Int) == 0) s0_0 (wrap64 (s0_1 + 1)))
set_option maxHeartbeats 8000000 in
set_option maxRecDepth 100000 in
theorem spec_l6Rd_pick.calls (k : Nat) (g : Nat) (s0_0 : List Int) (s0_1 : Int) (a1 : Int) (r1 : Int) (r2 : Int) (w0 w : World) (hI : IsS81 w0 w g s0_0 s0_1) (hB : Below w0.heap.size w0 w) (h : spec_l6Rd_pick.f k s0_0 s0_1 a1 = some (r1, r2)) :
  Calls Try.prog 48 #[.pointer (some ⟨g, 0, none⟩), .int .i64 a1] w fun e w' => e = .returned (.int .i64 r1) ∧ IsS81 w0 w' g s0_0 r2 ∧ Below w0.heap.size w0 w' ∧ KeepBut w w' g none := by
 have HI0 := Aside0.mk hI
 have HK := Aside0.mk (KeepBut.refl w g none)
 have HL := Aside0.mk hB.size
 clear hI
 have HW0 := Aside0.mk hB.size
 have HB := Aside0.mk hB
 clear hB
 have H : (if a1 < 1 then (spec_l6Rd_pick.j0 k a1 true s0_0 (wrap64 (s0_1 + 1))) else (spec_l6Rd_pick.j0 k a1 ((s0_0.length : Int) == 0) s0_0 (wrap64 (s0_1 + 1)))) = some (r1, r2) := h
 clear h
 have HC3 := Aside0.mk H
 clear H
 obtain ⟨ASz4_0, cSz4_0, HGz4, hgz4, HSz4_0⟩ := HI0.out
 have hcz4_0 := cellS81_0 HGz4
 have hcz4_1 := cellS81_1 HGz4
 have hfz4_1 := blk_frozen HGz4 1
 clear HGz4 hgz4
 go_enter Try.func48, Try.ntmps48
 go_upto_region 2 with (fail)
 repeat (go_quiet (fail); go_upto_region 2 with (fail))
 go_cut [24] (fun v24 wc => ∃ (kq : Nat) (x24_2 : Bool), v24 = .bool x24_2 ∧ Aside0 (spec_l6Rd_pick.j0 kq a1 x24_2 s0_0 (wrap64 (s0_1 + 1)) = some (r1, r2)) ∧ Aside0 (kq ≤ k) ∧ Aside0 (IsS81 w0 wc g s0_0 (wrap64 (s0_1 + 1))) ∧ Aside0 (KeepBut w wc g none) ∧ Aside0 (Below w0.heap.size w0 wc))
 case first =>
  have H := HC3.out
  clear HC3
  by_cases c5 : a1 < 1
  ·rw [if_pos c5] at H
   have c5b0 : decide (a1 < 1) = true := decide_eq_true c5
   clear c5
   (first | rw [c5b0] | (simp only [i64_w, i32_w]; rw [c5b0]) | skip)
   have H' := Aside0.mk H
   clear H
   go_wp2
   repeat (go_quiet (fail); try go_wp2)
   go_meet
   case rel => exact ⟨_, (true), qq25, H', ⟨qq40⟩, ⟨qq8⟩, ⟨qq4⟩, ⟨qq6⟩⟩
  ·rw [if_neg c5] at H
   have c5b0 : decide (a1 < 1) = false := decide_eq_false c5
   clear c5
   (first | rw [c5b0] | (simp only [i64_w, i32_w]; rw [c5b0]) | skip)
   have H' := Aside0.mk H
   clear H
   obtain ⟨ASz6_0, cSz6_0, HGz6, hgz6, HSz6_0⟩ := HI0.out
   have hcz6_0 := cellS81_0 HGz6
   have hcz6_1 := cellS81_1 HGz6
   have hfz6_1 := blk_frozen HGz6 1
   clear HGz6 hgz6
   go_wp2
   repeat (go_quiet (fail); try go_wp2)
   go_meet
   case rel => exact ⟨_, (((s0_0.length : Int) == 0)), qq25, H', ⟨qq40⟩, ⟨qq8⟩, ⟨qq4⟩, ⟨qq6⟩⟩
 case rest =>
  clear HC3
  try clear p2
  try clear c4
  try clear c5
  try clear c5b0
  try clear p6
  try clear hcz4_0
  try clear hcz4_1
  try clear hcz6_0
  try clear hcz6_1
  try clear hfz4_1
  try clear hfz6_1
  obtain ⟨kq, x24_2, rfl, HA, HJ2, HI0, HK, HB⟩ := hcut
  cases kq with
  | zero => exact absurd HA.out (by simp [spec_l6Rd_pick.j0])
  | succ kj2 =>
   have H := HA.out
   clear HA
   simp only [spec_l6Rd_pick.j0] at H
   by_cases c7 : x24_2 = true
   ·subst c7
    have H1 : (some (0, (wrap64 (s0_1 + 1)))) = some (r1, r2) := by rw [if_pos rfl] at H; exact H
    clear H
    have H := H1
    clear H1
    simp only [Option.some.injEq, Prod.mk.injEq] at H
    obtain ⟨rfl, rfl⟩ := H
    go_wp2
    repeat (go_quiet (fail); try go_wp2)
    go_ret
    exact ⟨qq10, qq8, qq6, qq4⟩
   ·replace c7 := Bool.eq_false_iff.mpr c7
    subst c7
    have H1 : (if (wrap64 ((wrap64 (s0_1 + 1)) - 1)) < (s0_0.length : Int) then (if 0 ≤ (wrap64 ((wrap64 (s0_1 + 1)) - 1)) then (if a1 = 0 then (none) else (some (Int.tmod (wrap64 (rd s0_0 (wrap64 ((wrap64 (s0_1 + 1)) - 1)))) a1, (wrap64 (s0_1 + 1))))) else (none)) else (if (s0_0.length : Int) = 0 then (none) else (if 0 ≤ (Int.tmod (wrap64 ((wrap64 (s0_1 + 1)) - 1)) (s0_0.length : Int)) then (if (Int.tmod (wrap64 ((wrap64 (s0_1 + 1)) - 1)) (s0_0.length : Int)) < (s0_0.length : Int) then (if 0 ≤ (Int.tmod (wrap64 ((wrap64 ((wrap64 ((wrap64 (s0_1 + 1)) - 1)) * 7)) + 3)) (s0_0.length : Int)) then (if (Int.tmod (wrap64 ((wrap64 ((wrap64 ((wrap64 (s0_1 + 1)) - 1)) * 7)) + 3)) (s0_0.length : Int)) < (s0_0.length : Int) then (if a1 = 0 then (none) else (some (Int.tmod (Go.bits .xor .i64 (wrap64 ((wrap64 ((wrap64 ((wrap64 ((wrap64 (rd s0_0 (Int.tmod (wrap64 ((wrap64 (s0_1 + 1)) - 1)) (s0_0.length : Int)))) * 131)) + (wrap64 ((wrap64 (rd s0_0 (Int.tmod (wrap64 ((wrap64 ((wrap64 ((wrap64 (s0_1 + 1)) - 1)) * 7)) + 3)) (s0_0.length : Int)))) * 1117)))) + (wrap64 ((wrap64 ((wrap64 (s0_1 + 1)) - 1)) * 29)))) + (wrap64 ((wrap64 (Int.tdiv (wrap64 ((wrap64 (s0_1 + 1)) - 1)) (s0_0.length : Int))) * 53)))) (wrap64 (Int.tdiv (wrap64 ((wrap64 ((wrap64 ((wrap64 ((wrap64 (rd s0_0 (Int.tmod (wrap64 ((wrap64 (s0_1 + 1)) - 1)) (s0_0.length : Int)))) * 131)) + (wrap64 ((wrap64 (rd s0_0 (Int.tmod (wrap64 ((wrap64 ((wrap64 ((wrap64 (s0_1 + 1)) - 1)) * 7)) + 3)) (s0_0.length : Int)))) * 1117)))) + (wrap64 ((wrap64 ((wrap64 (s0_1 + 1)) - 1)) * 29)))) + (wrap64 ((wrap64 (Int.tdiv (wrap64 ((wrap64 (s0_1 + 1)) - 1)) (s0_0.length : Int))) * 53)))) 64))) a1, (wrap64 (s0_1 + 1))))) else (none)) else (none)) else (none)) else (none)))) = some (r1, r2) := by rw [if_neg (show ¬ (false = true) by decide)] at H; exact H
    clear H
    have H := H1
    clear H1
    by_cases c8 : (wrap64 ((wrap64 (s0_1 + 1)) - 1)) < (s0_0.length : Int)
    ·rw [if_pos c8] at H
     have c8b0 : decide ((wrap64 ((wrap64 (s0_1 + 1)) - 1)) < (s0_0.length : Int)) = true := decide_eq_true c8
     clear c8
     obtain ⟨ji9, hji9⟩ : ∃ j_ : Int, (wrap64 ((wrap64 (s0_1 + 1)) - 1)) = j_ := ⟨_, rfl⟩
     replace H : (if 0 ≤ (ji9) then (if a1 = 0 then (none) else (some (Int.tmod (wrap64 (rd s0_0 (ji9))) a1, (wrap64 (s0_1 + 1))))) else (none)) = some (r1, r2) := by first | (rw [hji9] at H; exact H) | (simp only [hji9] at H ⊢; exact H)
     (try rw [hji9] at c8b0)
     have hji9w : (IntKind.i64.wrap ((wrap64 (s0_1 + 1)) - 1)) = ji9 := (i64_w _).trans hji9
     by_cases c10 : 0 ≤ (ji9)
     ·rw [if_pos c10] at H
      have c10b0 : decide (0 ≤ (ji9)) = true := decide_eq_true c10
      clear c10
      by_cases c11 : a1 = 0
      ·rw [if_pos c11] at H
       exact absurd H (by simp)
      ·rw [if_neg c11] at H
       have c11b0 : (a1 == 0) = false := beq_eq_false_iff_ne.mpr c11
       have c11b1 : (a1 != 0) = true := bne_iff_ne.mpr c11
       simp only [Option.some.injEq, Prod.mk.injEq] at H
       obtain ⟨rfl, rfl⟩ := H
       obtain ⟨ASz12_0, cSz12_0, HGz12, hgz12, HSz12_0⟩ := HI0.out
       have hcz12_0 := cellS81_0 HGz12
       have hcz12_1 := cellS81_1 HGz12
       have hfz12_1 := blk_frozen HGz12 1
       clear HGz12 hgz12
       have p101 : 0 ≤ ((ji9) : Int) := of_decide_eq_true qq14
       have q101 : (ji9) < (s0_0.length : Int) := of_decide_eq_true qq14
       obtain ⟨ad101, e101, hx101_0⟩ := Kd.at_int HSz12_0 (ji9) p101 q101
       cases e101
       replace hx101_0 := pw_cell_below HB.out hx101_0
       replace p101 := eq_true p101
       replace q101 := eq_true q101
       go_wp2
       repeat (go_quiet (fail); try go_wp2)
       go_ret
       exact ⟨by first | rfl | (simp [errW_none, errW_some] <;> rfl) | (simp only [← hji9]; first | rfl | (simp [errW_none, errW_some] <;> rfl)) | (simp [*, errW_none, errW_some] <;> rfl), qq8, qq6, qq4⟩
     ·rw [if_neg c10] at H
      exact absurd H (by simp)
    ·rw [if_neg c8] at H
     have c8b0 : decide ((wrap64 ((wrap64 (s0_1 + 1)) - 1)) < (s0_0.length : Int)) = false := decide_eq_false c8
     clear c8
     by_cases c13 : (s0_0.length : Int) = 0
     ·rw [if_pos c13] at H
      exact absurd H (by simp)
     ·rw [if_neg c13] at H
      have c13b0 : ((s0_0.length : Int) == 0) = false := beq_eq_false_iff_ne.mpr c13
      have c13b1 : ((s0_0.length : Int) != 0) = true := bne_iff_ne.mpr c13
      have c13b2 : ¬ (s0_0 = []) := fun h_ => c13 (by rw [h_]; rfl)
      obtain ⟨ji14, hji14⟩ : ∃ j_ : Int, (Int.tmod (wrap64 ((wrap64 (s0_1 + 1)) - 1)) (s0_0.length : Int)) = j_ := ⟨_, rfl⟩
      replace H : (if 0 ≤ (ji14) then (if (ji14) < (s0_0.length : Int) then (if 0 ≤ (Int.tmod (wrap64 ((wrap64 ((wrap64 ((wrap64 (s0_1 + 1)) - 1)) * 7)) + 3)) (s0_0.length : Int)) then (if (Int.tmod (wrap64 ((wrap64 ((wrap64 ((wrap64 (s0_1 + 1)) - 1)) * 7)) + 3)) (s0_0.length : Int)) < (s0_0.length : Int) then (if a1 = 0 then (none) else (some (Int.tmod (Go.bits .xor .i64 (wrap64 ((wrap64 ((wrap64 ((wrap64 ((wrap64 (rd s0_0 (ji14))) * 131)) + (wrap64 ((wrap64 (rd s0_0 (Int.tmod (wrap64 ((wrap64 ((wrap64 ((wrap64 (s0_1 + 1)) - 1)) * 7)) + 3)) (s0_0.length : Int)))) * 1117)))) + (wrap64 ((wrap64 ((wrap64 (s0_1 + 1)) - 1)) * 29)))) + (wrap64 ((wrap64 (Int.tdiv (wrap64 ((wrap64 (s0_1 + 1)) - 1)) (s0_0.length : Int))) * 53)))) (wrap64 (Int.tdiv (wrap64 ((wrap64 ((wrap64 ((wrap64 ((wrap64 (rd s0_0 (ji14))) * 131)) + (wrap64 ((wrap64 (rd s0_0 (Int.tmod (wrap64 ((wrap64 ((wrap64 ((wrap64 (s0_1 + 1)) - 1)) * 7)) + 3)) (s0_0.length : Int)))) * 1117)))) + (wrap64 ((wrap64 ((wrap64 (s0_1 + 1)) - 1)) * 29)))) + (wrap64 ((wrap64 (Int.tdiv (wrap64 ((wrap64 (s0_1 + 1)) - 1)) (s0_0.length : Int))) * 53)))) 64))) a1, (wrap64 (s0_1 + 1))))) else (none)) else (none)) else (none)) else (none)) = some (r1, r2) := by first | (rw [hji14] at H; exact H) | (simp only [hji14] at H ⊢; exact H)
      by_cases c15 : 0 ≤ (ji14)
      ·rw [if_pos c15] at H
       have c15b0 : decide (0 ≤ (ji14)) = true := decide_eq_true c15
       clear c15
       by_cases c16 : (ji14) < (s0_0.length : Int)
       ·rw [if_pos c16] at H
        have c16b0 : decide ((ji14) < (s0_0.length : Int)) = true := decide_eq_true c16
        clear c16
        obtain ⟨ji17, hji17⟩ : ∃ j_ : Int, (Int.tmod (wrap64 ((wrap64 ((wrap64 ((wrap64 (s0_1 + 1)) - 1)) * 7)) + 3)) (s0_0.length : Int)) = j_ := ⟨_, rfl⟩
        replace H : (if 0 ≤ (ji17) then (if (ji17) < (s0_0.length : Int) then (if a1 = 0 then (none) else (some (Int.tmod (Go.bits .xor .i64 (wrap64 ((wrap64 ((wrap64 ((wrap64 ((wrap64 (rd s0_0 (ji14))) * 131)) + (wrap64 ((wrap64 (rd s0_0 (ji17))) * 1117)))) + (wrap64 ((wrap64 ((wrap64 (s0_1 + 1)) - 1)) * 29)))) + (wrap64 ((wrap64 (Int.tdiv (wrap64 ((wrap64 (s0_1 + 1)) - 1)) (s0_0.length : Int))) * 53)))) (wrap64 (Int.tdiv (wrap64 ((wrap64 ((wrap64 ((wrap64 ((wrap64 (rd s0_0 (ji14))) * 131)) + (wrap64 ((wrap64 (rd s0_0 (ji17))) * 1117)))) + (wrap64 ((wrap64 ((wrap64 (s0_1 + 1)) - 1)) * 29)))) + (wrap64 ((wrap64 (Int.tdiv (wrap64 ((wrap64 (s0_1 + 1)) - 1)) (s0_0.length : Int))) * 53)))) 64))) a1, (wrap64 (s0_1 + 1))))) else (none)) else (none)) = some (r1, r2) := by first | (rw [hji17] at H; exact H) | (simp only [hji17] at H ⊢; exact H)
        by_cases c18 : 0 ≤ (ji17)
        ·rw [if_pos c18] at H
         have c18b0 : decide (0 ≤ (ji17)) = true := decide_eq_true c18
         clear c18
         by_cases c19 : (ji17) < (s0_0.length : Int)
         ·rw [if_pos c19] at H
          have c19b0 : decide ((ji17) < (s0_0.length : Int)) = true := decide_eq_true c19
          clear c19
          by_cases c20 : a1 = 0
          ·rw [if_pos c20] at H
           exact absurd H (by simp)
          ·rw [if_neg c20] at H
           have c20b0 : (a1 == 0) = false := beq_eq_false_iff_ne.mpr c20
           have c20b1 : (a1 != 0) = true := bne_iff_ne.mpr c20
           simp only [Option.some.injEq, Prod.mk.injEq] at H
           obtain ⟨rfl, rfl⟩ := H
           obtain ⟨ASz21_0, cSz21_0, HGz21, hgz21, HSz21_0⟩ := HI0.out
           have hcz21_0 := cellS81_0 HGz21
           have hcz21_1 := cellS81_1 HGz21
           have hfz21_1 := blk_frozen HGz21 1
           clear HGz21 hgz21
           have p102 : 0 ≤ ((ji14) : Int) := of_decide_eq_true qq14
           have q102 : (ji14) < (s0_0.length : Int) := of_decide_eq_true qq14
           obtain ⟨ad102, e102, hx102_0⟩ := Kd.at_int HSz21_0 (ji14) p102 q102
           cases e102
           replace hx102_0 := pw_cell_below HB.out hx102_0
           replace p102 := eq_true p102
           replace q102 := eq_true q102
           have p103 : 0 ≤ ((ji17) : Int) := of_decide_eq_true qq14
           have q103 : (ji17) < (s0_0.length : Int) := of_decide_eq_true qq14
           obtain ⟨ad103, e103, hx103_0⟩ := Kd.at_int HSz21_0 (ji17) p103 q103
           obtain rfl : ad102 = ad103 := (by injection e103)
           replace hx103_0 := pw_cell_below HB.out hx103_0
           replace p103 := eq_true p103
           replace q103 := eq_true q103
           go_wp2
           repeat (go_quiet (fail); try go_wp2)
           go_ret
           exact ⟨by first | rfl | (simp [errW_none, errW_some] <;> rfl) | (simp only [← hji14, ← hji17]; first | rfl | (simp [errW_none, errW_some] <;> rfl)) | (simp [*, errW_none, errW_some] <;> rfl), qq8, qq6, qq4⟩
         ·rw [if_neg c19] at H
          exact absurd H (by simp)
        ·rw [if_neg c18] at H
         exact absurd H (by simp)
       ·rw [if_neg c16] at H
        exact absurd H (by simp)
      ·rw [if_neg c15] at H
       exact absurd H (by simp)

end Go.Proofs.Ytgdhgncdpmalcaa.Q
namespace Go.Proofs.Ytgdhgncdpmalcaa.Q
open Go.RowKit Go.Proofs.YtgdhgncdpmalcaaW.PrintWords Go.Proofs.YtgdhgncdpmalcaaW.PrintLast Go.Proofs.YtgdhgncdpmalcaaW.PrintMore
attribute [local go_sem] max2_int min2_int max_two min_two max_three min_three max_four min_four
set_option linter.unusedVariables false
set_option linter.unusedSimpArgs false

/-! ### spec_l6Open: function 42 -/
def spec_l6Open.f (l0 : List Int) : Option (List Int × Int) := if (l0.length : Int) > 2000 then (if 2000 ≤ (l0.length : Int) then (some (l0.take 2000, 0)) else (none)) else (some (l0, 0))
set_option maxHeartbeats 8000000 in
set_option maxRecDepth 100000 in
theorem spec_l6Open.calls (A0 : Option Addr) (c0 : Nat) (l0 : List Int) (r1 : List Int) (r2 : Int) (w0 w : World) (hB : Below w0.heap.size w0 w) (hr0 : Kd.C (Kd.int .u8) w0 A0 l0.length l0) (hc0 : l0.length ≤ c0) (h : spec_l6Open.f l0 = some (r1, r2)) :
  Calls Try.prog 42 #[.slice A0 l0.length c0] w fun e w' => ∃ g_ : Nat, e = .returned (.pointer (some ⟨g_, 0, none⟩)) ∧ IsS81 w0 w' g_ r1 r2 ∧ Below w0.heap.size w0 w' ∧ Below w.heap.size w w' := by
 have hu81 := Try.underlying81
 have HR0 := Aside0.mk hr0
 have HC0 := Aside0.mk hc0
 clear hr0 hc0
 have HBW := Aside0.mk (Below.refl w.heap.size w)
 have HW0 := Aside0.mk hB.size
 have HB := Aside0.mk hB
 clear hB
 have H : (if (l0.length : Int) > 2000 then (if 2000 ≤ (l0.length : Int) then (some (l0.take 2000, 0)) else (none)) else (some (l0, 0))) = some (r1, r2) := h
 clear h
 by_cases c2 : (l0.length : Int) > 2000
 ·rw [if_pos c2] at H
  have c2b0 : decide (2000 < (l0.length : Int)) = true := decide_eq_true c2
  have c2b1 : decide (2000 < l0.length) = true := decide_eq_true (by omega)
  clear c2
  by_cases c3 : 2000 ≤ (l0.length : Int)
  ·rw [if_pos c3] at H
   have c3b0 := eq_true c3
   have c3b1 : decide (2000 ≤ (l0.length : Int)) = true := decide_eq_true c3
   clear c3
   simp only [Option.some.injEq, Prod.mk.injEq] at H
   obtain ⟨rfl, rfl⟩ := H
   obtain ⟨i04, hi04, _, hsz4, _⟩ := info_parts info5
   obtain ⟨hcut4, hA4, hC4⟩ := print_take_of (P := Try.prog) (Value.int .u8) 0 22 5 .i64 Try.underlying22 hi04 hsz4 A0 c0 l0 2000 (by omega) (of_decide_eq_true qq14) HC0.out
   have HR197 := Aside0.mk (Kd.C_of_reads (h1 := fun _ => rfl) (hA4 _ (Kd.reads_of_C HR0.out)))
   have HC197 := Aside0.mk hC4
   clear hA4 hC4 hi04 hsz4
   go_enter Try.func42, Try.ntmps42
   go_wp2_with (first | ((with_reducible refine gate_dst (N := 10) rfl ?_); refine box_event ?hg (N := 10) ?hd (cs := #[.slice A0 (l0.take 2000).length c0, .int .i64 0]) (t := 81) ?hr ?_; (case hd => rfl); (case hg => rfl); (case hr => exact qq22); intro gb198 hg w5 hbox hb; have n0_ := Aside0.mk (below_step HBW.out hb); have n1_ := Aside0.mk (below_step qq1 hb); have n2_ := Aside0.mk (hbox); have n3_ := Aside0.mk ((qq49 : w.heap.size ≤ gb198)); have n4_ := Aside0.mk ((Nat.le_trans HW0.out (qq49 : w.heap.size ≤ gb198) : w0.heap.size ≤ gb198)); clear HBW; clear HB; have HBW := n0_; have HB := n1_; have BK198 := n2_; have GW198 := n3_; have GE198 := n4_; clear n0_ n1_ n2_ n3_ n4_; clear hb hbox hg))
   go_ret
   exact ⟨_, rfl, (show IsS81 w0 _ gb198 (l0.take 2000) 0 from ⟨_, _, qq12 BK198.out, GE198.out, HR197.out⟩), qq7 HB.out GE198.out, qq7 HBW.out GW198.out⟩
  ·rw [if_neg c3] at H
   exact absurd H (by simp)
 ·rw [if_neg c2] at H
  have c2b0 : decide (2000 < (l0.length : Int)) = false := decide_eq_false c2
  have c2b1 : decide (2000 < l0.length) = false := decide_eq_false (by omega)
  clear c2
  simp only [Option.some.injEq, Prod.mk.injEq] at H
  obtain ⟨rfl, rfl⟩ := H
  go_enter Try.func42, Try.ntmps42
  go_wp2_with (first | ((with_reducible refine gate_dst (N := 10) rfl ?_); refine box_event ?hg (N := 10) ?hd (cs := #[.slice A0 l0.length c0, .int .i64 0]) (t := 81) ?hr ?_; (case hd => rfl); (case hg => rfl); (case hr => exact qq22); intro gb199 hg w6 hbox hb; have n0_ := Aside0.mk (below_step HBW.out hb); have n1_ := Aside0.mk (below_step qq1 hb); have n2_ := Aside0.mk (hbox); have n3_ := Aside0.mk ((qq49 : w.heap.size ≤ gb199)); have n4_ := Aside0.mk ((Nat.le_trans HW0.out (qq49 : w.heap.size ≤ gb199) : w0.heap.size ≤ gb199)); clear HBW; clear HB; have HBW := n0_; have HB := n1_; have BK199 := n2_; have GW199 := n3_; have GE199 := n4_; clear n0_ n1_ n2_ n3_ n4_; clear hb hbox hg))
  go_ret
  exact ⟨_, rfl, (show IsS81 w0 _ gb199 l0 0 from ⟨_, _, qq12 BK199.out, GE199.out, HR0.out⟩), qq7 HB.out GE199.out, qq7 HBW.out GW199.out⟩

end Go.Proofs.Ytgdhgncdpmalcaa.Q
namespace Go.Proofs.Ytgdhgncdpmalcaa.Q
open Go.RowKit Go.Proofs.YtgdhgncdpmalcaaW.PrintWords Go.Proofs.YtgdhgncdpmalcaaW.PrintLast Go.Proofs.YtgdhgncdpmalcaaW.PrintMore
attribute [local go_sem] max2_int min2_int max_two min_two max_three min_three max_four min_four
set_option linter.unusedVariables false
set_option linter.unusedSimpArgs false

/-! ### spec_l91Point: function 55 -/
def spec_l91Point.f (k : Nat) (s0_0 : List Int) (s0_1 : Int) : Option (Int × Int × Int) := (spec_l6Rd_pick.f k s0_0 s0_1 13).bind fun bt105 => ((spec_l6Rd_pick.f k s0_0 bt105.2 13).bind fun bt107 => ((spec_l6Rd_pick.f k s0_0 bt107.2 40).bind fun bt110 => (if bt110.1 = 0 then ((some (([10000, 10001, (-10001)] : List Int) : List Int)).bind fun y112 => ((spec_l6Rd_pick.f k s0_0 bt110.2 3).bind fun bt115 => (if 0 ≤ bt115.1 then (if bt115.1 < (y112.length : Int) then (some (rd y112 bt115.1, wrap64 (bt107.1 - 6), bt115.2)) else (none)) else (none)))) else (if bt110.1 = 1 then ((spec_l6Rd_pick.f k s0_0 bt110.2 200).bind fun bt118 => ((spec_l6Rd_pick.f k s0_0 bt118.2 200).bind fun bt120 => (some (wrap64 ((wrap64 (bt118.1 * 50)) - 5000), wrap64 ((wrap64 (bt120.1 * 50)) - 5000), bt120.2)))) else (some (wrap64 (bt105.1 - 6), wrap64 (bt107.1 - 6), bt110.2))))))
set_option maxHeartbeats 8000000 in
set_option maxRecDepth 100000 in
theorem spec_l91Point.calls (k : Nat) (g : Nat) (s0_0 : List Int) (s0_1 : Int) (r1 : Int) (r2 : Int) (r3 : Int) (w0 w : World) (hI : IsS81 w0 w g s0_0 s0_1) (hB : Below w0.heap.size w0 w) (h : spec_l91Point.f k s0_0 s0_1 = some (r1, r2, r3)) :
  Calls Try.prog 55 #[.pointer (some ⟨g, 0, none⟩)] w fun e w' => e = .returned (.agg #[.int .i64 r1, .int .i64 r2]) ∧ IsS81 w0 w' g s0_0 r3 ∧ Below w0.heap.size w0 w' ∧ KeepBut w w' g none := by
 have hu32 := Try.underlying32
 have HI0 := Aside0.mk hI
 have HK := Aside0.mk (KeepBut.refl w g none)
 have HL := Aside0.mk hB.size
 clear hI
 have HW0 := Aside0.mk hB.size
 have HB := Aside0.mk hB
 clear hB
 have H : ((spec_l6Rd_pick.f k s0_0 s0_1 13).bind fun bt105 => ((spec_l6Rd_pick.f k s0_0 bt105.2 13).bind fun bt107 => ((spec_l6Rd_pick.f k s0_0 bt107.2 40).bind fun bt110 => (if bt110.1 = 0 then ((some (([10000, 10001, (-10001)] : List Int) : List Int)).bind fun y112 => ((spec_l6Rd_pick.f k s0_0 bt110.2 3).bind fun bt115 => (if 0 ≤ bt115.1 then (if bt115.1 < (y112.length : Int) then (some (rd y112 bt115.1, wrap64 (bt107.1 - 6), bt115.2)) else (none)) else (none)))) else (if bt110.1 = 1 then ((spec_l6Rd_pick.f k s0_0 bt110.2 200).bind fun bt118 => ((spec_l6Rd_pick.f k s0_0 bt118.2 200).bind fun bt120 => (some (wrap64 ((wrap64 (bt118.1 * 50)) - 5000), wrap64 ((wrap64 (bt120.1 * 50)) - 5000), bt120.2)))) else (some (wrap64 (bt105.1 - 6), wrap64 (bt107.1 - 6), bt110.2))))))) = some (r1, r2, r3) := h
 clear h
 replace H := Option.bind_eq_some_iff.mp H
 obtain ⟨⟨t105, t106⟩, A20, H⟩ := H
 replace H : ((spec_l6Rd_pick.f k s0_0 t106 13).bind fun bt107 => ((spec_l6Rd_pick.f k s0_0 bt107.2 40).bind fun bt110 => (if bt110.1 = 0 then ((some (([10000, 10001, (-10001)] : List Int) : List Int)).bind fun y112 => ((spec_l6Rd_pick.f k s0_0 bt110.2 3).bind fun bt115 => (if 0 ≤ bt115.1 then (if bt115.1 < (y112.length : Int) then (some (rd y112 bt115.1, wrap64 (bt107.1 - 6), bt115.2)) else (none)) else (none)))) else (if bt110.1 = 1 then ((spec_l6Rd_pick.f k s0_0 bt110.2 200).bind fun bt118 => ((spec_l6Rd_pick.f k s0_0 bt118.2 200).bind fun bt120 => (some (wrap64 ((wrap64 (bt118.1 * 50)) - 5000), wrap64 ((wrap64 (bt120.1 * 50)) - 5000), bt120.2)))) else (some (wrap64 (t105 - 6), wrap64 (bt107.1 - 6), bt110.2)))))) = some (r1, r2, r3) := H
 have A2 := Aside0.mk A20
 clear A20
 replace H := Option.bind_eq_some_iff.mp H
 obtain ⟨⟨t107, t108⟩, A30, H⟩ := H
 replace H : ((spec_l6Rd_pick.f k s0_0 t108 40).bind fun bt110 => (if bt110.1 = 0 then ((some (([10000, 10001, (-10001)] : List Int) : List Int)).bind fun y112 => ((spec_l6Rd_pick.f k s0_0 bt110.2 3).bind fun bt115 => (if 0 ≤ bt115.1 then (if bt115.1 < (y112.length : Int) then (some (rd y112 bt115.1, wrap64 (t107 - 6), bt115.2)) else (none)) else (none)))) else (if bt110.1 = 1 then ((spec_l6Rd_pick.f k s0_0 bt110.2 200).bind fun bt118 => ((spec_l6Rd_pick.f k s0_0 bt118.2 200).bind fun bt120 => (some (wrap64 ((wrap64 (bt118.1 * 50)) - 5000), wrap64 ((wrap64 (bt120.1 * 50)) - 5000), bt120.2)))) else (some (wrap64 (t105 - 6), wrap64 (t107 - 6), bt110.2))))) = some (r1, r2, r3) := H
 have A3 := Aside0.mk A30
 clear A30
 replace H := Option.bind_eq_some_iff.mp H
 obtain ⟨⟨t110, t111⟩, A40, H⟩ := H
 replace H : (if t110 = 0 then ((some (([10000, 10001, (-10001)] : List Int) : List Int)).bind fun y112 => ((spec_l6Rd_pick.f k s0_0 t111 3).bind fun bt115 => (if 0 ≤ bt115.1 then (if bt115.1 < (y112.length : Int) then (some (rd y112 bt115.1, wrap64 (t107 - 6), bt115.2)) else (none)) else (none)))) else (if t110 = 1 then ((spec_l6Rd_pick.f k s0_0 t111 200).bind fun bt118 => ((spec_l6Rd_pick.f k s0_0 bt118.2 200).bind fun bt120 => (some (wrap64 ((wrap64 (bt118.1 * 50)) - 5000), wrap64 ((wrap64 (bt120.1 * 50)) - 5000), bt120.2)))) else (some (wrap64 (t105 - 6), wrap64 (t107 - 6), t111)))) = some (r1, r2, r3) := H
 have A4 := Aside0.mk A40
 clear A40
 by_cases c5 : t110 = 0
 ·rw [if_pos c5] at H
  have c5b0 : (t110 == 0) = true := beq_iff_eq.mpr c5
  have c5b1 : (t110 != 0) = false := bne_eq_false_iff_eq.mpr c5
  clear c5
  obtain ⟨y112, hy112⟩ : ∃ y_ : List Int, y_ = (([10000, 10001, (-10001)] : List Int)) := ⟨_, rfl⟩
  replace H : ((spec_l6Rd_pick.f k s0_0 t111 3).bind fun bt115 => (if 0 ≤ bt115.1 then (if bt115.1 < (y112.length : Int) then (some (rd y112 bt115.1, wrap64 (t107 - 6), bt115.2)) else (none)) else (none))) = some (r1, r2, r3) := by first | (rw [hy112]; with_reducible exact H) | (have H2_ := (Option.bind_some _ _).symm.trans H; rw [hy112]; with_reducible exact H2_) | (have H2_ := (Option.bind_some _ _).symm.trans H; with_reducible exact H2_) | with_reducible exact H | (rw [hy112]; exact H) | exact H
  have Ny112 := Aside0.mk hy112
  clear hy112
  replace H := Option.bind_eq_some_iff.mp H
  obtain ⟨⟨t115, t116⟩, A60, H⟩ := H
  replace H : (if 0 ≤ t115 then (if t115 < (y112.length : Int) then (some (rd y112 t115, wrap64 (t107 - 6), t116)) else (none)) else (none)) = some (r1, r2, r3) := H
  have A6 := Aside0.mk A60
  clear A60
  by_cases c7 : 0 ≤ t115
  ·rw [if_pos c7] at H
   have c7b0 : decide (0 ≤ t115) = true := decide_eq_true c7
   clear c7
   by_cases c8 : t115 < (y112.length : Int)
   ·rw [if_pos c8] at H
    have c8b0 : decide (t115 < (y112.length : Int)) = true := decide_eq_true c8
    clear c8
    simp only [Option.some.injEq, Prod.mk.injEq] at H
    obtain ⟨rfl, rfl, rfl⟩ := H
    go_enter Try.func55, Try.ntmps55
    go_wp2_with (first | ((with_reducible refine gate_dst (N := 2) rfl ?_); refine box_event ?hg (N := 2) ?hd (cs := #[.int .i64 0, .int .i64 0]) (t := 32) ?hr ?_; (case hd => rfl); (case hg => rfl); (case hr => exact qq22); intro gb104 hg w9 hbox hb; have n0_ := Aside0.mk (IsS81.below qq8 hb); have n1_ := Aside0.mk (KeepBut.trans qq4 (KeepBut.of_below hb g none) (.inl rfl)); have n2_ := Aside0.mk (below_step qq6 hb); have n3_ := Aside0.mk (hbox); have n4_ := Aside0.mk ((qq64 : w.heap.size ≤ gb104)); have n5_ := Aside0.mk ((Nat.le_trans HW0.out (qq64 : w.heap.size ≤ gb104) : w0.heap.size ≤ gb104)); have n6_ := Aside0.mk ((qq51 : g ≠ gb104)); have n7_ := Aside0.mk ((qq52 : gb104 ≠ g)); clear HI0; clear HK; clear HB; have HI0 := n0_; have HK := n1_; have HB := n2_; have BK104 := n3_; have GW104 := n4_; have GE104 := n5_; have NB0_104 := n6_; have NB104_0 := n7_; clear n0_ n1_ n2_ n3_ n4_ n5_ n6_ n7_; clear hb hbox hg) | ((with_reducible refine gate_callee (f := 48) rfl ?_); refine goesL_ (some 5) rfl rfl Try.func48 (by kernel_rfl) rfl #[.pointer (some ⟨g, 0, none⟩), .int .i64 13] rfl qq3 ?_; (with_reducible refine (spec_l6Rd_pick.calls k g s0_0 s0_1 13 t105 t106 w0 _ ?side1 ?side2 A2.out).mono ?_); (case side1 => exact qq30); (case side2 => exact qq29); rintro e w10 ⟨rfl, hi, hb, hk⟩; refine ⟨_, rfl, ?_⟩; have n0_ := Aside0.mk (KeepBut.blk hk (g' := gb104) (o := .cells #[.int .i64 0, .int .i64 0] 32 (0, 0)) (qq12 BK104.out) NB104_0.out (by simp)); have n1_ := Aside0.mk (KeepBut.trans qq24 hk (.inl rfl)); have n2_ := Aside0.mk (hb); have n3_ := Aside0.mk (hi); clear BK104; clear HK; clear HB; clear HI0; have BK104 := n0_; have HK := n1_; have HB := n2_; have HI0 := n3_; clear n0_ n1_ n2_ n3_; (try clear hb); (try clear hb2); (try clear hk); (try clear hi)) | ((with_reducible refine gate_callee (f := 48) rfl ?_); refine goesL_ (some 8) rfl rfl Try.func48 (by kernel_rfl) rfl #[.pointer (some ⟨g, 0, none⟩), .int .i64 13] rfl qq3 ?_; (with_reducible refine (spec_l6Rd_pick.calls k g s0_0 t106 13 t107 t108 w0 _ ?side1 ?side2 A3.out).mono ?_); (case side1 => exact qq30); (case side2 => exact qq29); rintro e w11 ⟨rfl, hi, hb, hk⟩; refine ⟨_, rfl, ?_⟩; have n0_ := Aside0.mk (KeepBut.blk hk (g' := gb104) (o := .cells #[.int .i64 0, .int .i64 0] 32 (0, 0)) (qq12 BK104.out) NB104_0.out (by simp)); have n1_ := Aside0.mk (KeepBut.trans qq24 hk (.inl rfl)); have n2_ := Aside0.mk (hb); have n3_ := Aside0.mk (hi); clear BK104; clear HK; clear HB; clear HI0; have BK104 := n0_; have HK := n1_; have HB := n2_; have HI0 := n3_; clear n0_ n1_ n2_ n3_; (try clear hb); (try clear hb2); (try clear hk); (try clear hi)) | ((with_reducible refine gate_dst (N := 3) rfl ?_); refine box_event ?hg (N := 3) ?hd (cs := #[.int .i64 0, .int .i64 0]) (t := 32) ?hr ?_; (case hd => rfl); (case hg => rfl); (case hr => exact qq22); intro gb109 hg w12 hbox hb; have n0_ := Aside0.mk (IsS81.below qq30 hb); have n1_ := Aside0.mk (bbl_ BK104.out hb); have n2_ := Aside0.mk (KeepBut.trans qq24 (KeepBut.of_below hb g none) (.inl rfl)); have n3_ := Aside0.mk (below_step qq29 hb); have n4_ := Aside0.mk (hbox); have n5_ := Aside0.mk ((qq63 : w.heap.size ≤ gb109)); have n6_ := Aside0.mk ((Nat.le_trans HW0.out (qq63 : w.heap.size ≤ gb109) : w0.heap.size ≤ gb109)); have n7_ := Aside0.mk ((qq31 BK104.out : gb104 ≠ gb109)); have n8_ := Aside0.mk ((qq32 BK104.out : gb109 ≠ gb104)); have n9_ := Aside0.mk ((qq45 : g ≠ gb109)); have n10_ := Aside0.mk ((qq46 : gb109 ≠ g)); clear HI0; clear BK104; clear HK; clear HB; have HI0 := n0_; have BK104 := n1_; have HK := n2_; have HB := n3_; have BK109 := n4_; have GW109 := n5_; have GE109 := n6_; have NB104_109 := n7_; have NB109_104 := n8_; have NB0_109 := n9_; have NB109_0 := n10_; clear n0_ n1_ n2_ n3_ n4_ n5_ n6_ n7_ n8_ n9_ n10_; clear hb hbox hg; have hnb13 := NB109_104.out; have hnc13 := NB104_109.out; have hnb14 := NB109_0.out; have hnc14 := NB0_109.out; have hcz15_0 : w12.cell? ⟨gb109, 0, none⟩ = some (.int .i64 0) := (blk_cell BK109.out 0).trans rfl; have hcz15_1 : w12.cell? ⟨gb109, 1, none⟩ = some (.int .i64 0) := (blk_cell BK109.out 1).trans rfl; have hfz15_0 := blk_frozen BK109.out 0; have hfz15_1 := blk_frozen BK109.out 1) | ((with_reducible refine gate_callee (f := 48) rfl ?_); refine goesL_ (some 12) rfl rfl Try.func48 (by kernel_rfl) rfl #[.pointer (some ⟨g, 0, none⟩), .int .i64 40] rfl qq3 ?_; (with_reducible refine (spec_l6Rd_pick.calls k g s0_0 t108 40 t110 t111 w0 _ ?side1 ?side2 A4.out).mono ?_); (case side1 => exact qq28); (case side2 => exact qq27); rintro e w16 ⟨rfl, hi, hb, hk⟩; refine ⟨_, rfl, ?_⟩; have n0_ := Aside0.mk (KeepBut.blk hk (g' := gb104) (o := .cells #[.int .i64 0, .int .i64 0] 32 (0, 0)) (qq17 NB104_109.out BK104.out) NB104_0.out (by simp)); have n1_ := Aside0.mk (KeepBut.blk hk (g' := gb109) (o := .cells #[.int .i64 (wrap64 (t105 - 6)), .int .i64 (wrap64 (t107 - 6))] 32 (0, 0)) (qq33 BK109.out) NB109_0.out (by simp)); have n2_ := Aside0.mk (KeepBut.trans qq26 hk (.inl rfl)); have n3_ := Aside0.mk (hb); have n4_ := Aside0.mk (hi); clear BK104; clear BK109; clear HK; clear HB; clear HI0; have BK104 := n0_; have BK109 := n1_; have HK := n2_; have HB := n3_; have HI0 := n4_; clear n0_ n1_ n2_ n3_ n4_; (try clear hb); (try clear hb2); (try clear hk); (try clear hi)) | ((with_reducible refine gate_dst (N := 15) rfl ?_); refine Kd.R_lit (Kd.int .i64) _ 3 ?hg (N := 15) ?hd (xs := ([10000, 10001, (-10001)] : List Int)) (inner := [.int .i64 10000, .int .i64 10001, .int .i64 (-10001)]) (ok := fun _ => True) (okp := fun _ => True) ?hr ?hp (fun _ hk => hk) trivial (Below.refl _ _) (Nat.le_refl _) (by simp) ?_; (case hd => rfl); (case hg => rfl); (case hr => exact qq22); (case hp => exact (Reps.one (show Kd.M (Kd.int .i64) _ _ _ 10000 [.int .i64 10000] from rfl) (Reps.one (show Kd.M (Kd.int .i64) _ _ _ 10001 [.int .i64 10001] from rfl) (Reps.one (show Kd.M (Kd.int .i64) _ _ _ (-10001) [.int .i64 (-10001)] from rfl) (Reps.none _ _))))); intro v113 w17 ho18 hb hg_ hnew_; clear hg_ hnew_; (first | rw [← Ny112.out] at ho18 | (simp only [Int.reduceToNat] at ho18; rw [← Ny112.out] at ho18)); have n0_ := Aside0.mk (Kd.R_lower ho18 (keep_size (w := w) (g := g) (row := none) qq26)); have n1_ := Aside0.mk (IsS81.below qq28 hb); have n2_ := Aside0.mk (bbl_ BK104.out hb); have n3_ := Aside0.mk (bbl_ BK109.out hb); have n4_ := Aside0.mk (KeepBut.trans qq26 (KeepBut.of_below hb g none) (.inl rfl)); have n5_ := Aside0.mk (below_step qq27 hb); clear HI0; clear BK104; clear BK109; clear HK; clear HB; have HO114 := n0_; have HI0 := n1_; have BK104 := n2_; have BK109 := n3_; have HK := n4_; have HB := n5_; clear n0_ n1_ n2_ n3_ n4_ n5_; clear hb ho18) | ((with_reducible refine gate_callee (f := 48) rfl ?_); refine goesL_ (some 17) rfl rfl Try.func48 (by kernel_rfl) rfl #[.pointer (some ⟨g, 0, none⟩), .int .i64 3] rfl qq3 ?_; (with_reducible refine (spec_l6Rd_pick.calls k g s0_0 t111 3 t115 t116 w0 _ ?side1 ?side2 A6.out).mono ?_); (case side1 => exact qq28); (case side2 => exact qq27); rintro e w19 ⟨rfl, hi, hb, hk⟩; refine ⟨_, rfl, ?_⟩; have n0_ := Aside0.mk (KeepBut.blk hk (g' := gb104) (o := .cells #[.int .i64 0, .int .i64 0] 32 (0, 0)) (qq12 BK104.out) NB104_0.out (by simp)); have n1_ := Aside0.mk (KeepBut.blk hk (g' := gb109) (o := .cells #[.int .i64 (wrap64 (t105 - 6)), .int .i64 (wrap64 (t107 - 6))] 32 (0, 0)) (qq12 BK109.out) NB109_0.out (by simp)); have n2_ := Aside0.mk (Kd.R_mono (Kd.R_keep (IsS81.apart (show IsS81 w0 _ g s0_0 t111 from by repeat (first | (with_reducible first | exact HI0.out | apply IsS81.alloc | apply IsS81.drewN | apply IsS81.drew | apply IsS81.set_1 | refine IsS81.far ?_ NB0_104.out _ | refine IsS81.far ?_ NB0_109.out _) | exact HI0.out)) (qq2 HO114.out) (by decide)) hk (fun _ h => h.2)) (fun _ h => h.1)); have n3_ := Aside0.mk (KeepBut.trans qq26 hk (.inl rfl)); have n4_ := Aside0.mk (hb); have n5_ := Aside0.mk (hi); clear BK104; clear BK109; clear HO114; clear HK; clear HB; clear HI0; have BK104 := n0_; have BK109 := n1_; have HO114 := n2_; have HK := n3_; have HB := n4_; have HI0 := n5_; clear n0_ n1_ n2_ n3_ n4_ n5_; (try clear hb); (try clear hb2); (try clear hk); (try clear hi); obtain ⟨Ao20, co20, eo20⟩ := Kd.R_slice HO114.out; subst eo20; have p117 : 0 ≤ (t115 : Int) := of_decide_eq_true qq14; have q117 : t115 < (y112.length : Int) := of_decide_eq_true qq14; obtain ⟨ad117, e117, hx117_0⟩ := Kd.at_int (Kd.R_reads' HO114.out).2.2 t115 p117 q117; cases e117; replace p117 := eq_true p117; replace q117 := eq_true q117; have hcz21_0 : w19.cell? ⟨gb109, 0, none⟩ = some (.int .i64 (wrap64 (t105 - 6))) := (blk_cell BK109.out 0).trans rfl; have hcz21_1 : w19.cell? ⟨gb109, 1, none⟩ = some (.int .i64 (wrap64 (t107 - 6))) := (blk_cell BK109.out 1).trans rfl; have hfz21_0 := blk_frozen BK109.out 0; have hfz21_1 := blk_frozen BK109.out 1; have hnb22 := NB104_0.out; have hnc22 := NB0_104.out; have hcz23_0 : w19.cell? ⟨gb104, 0, none⟩ = some (.int .i64 0) := (blk_cell BK104.out 0).trans rfl; have hcz23_1 : w19.cell? ⟨gb104, 1, none⟩ = some (.int .i64 0) := (blk_cell BK104.out 1).trans rfl; have hfz23_0 := blk_frozen BK104.out 0; have hfz23_1 := blk_frozen BK104.out 1))
    refine bodyPost_ret (results_cell_row rfl _ _ gb104 32 #[.int .i64 (rd y112 t115), .int .i64 (wrap64 (t107 - 6))] (0, 0) _ rfl (by (with_reducible repeat (first | refine blk_drewN ?_ _ | refine blk_drew ?_ | refine blk_alloc ?_ _)); refine blk_put (cs := #[.int .i64 (rd y112 t115), .int .i64 0]) ?_ 1 _ rfl; (with_reducible repeat (first | refine blk_drewN ?_ _ | refine blk_drew ?_ | refine blk_alloc ?_ _)); refine blk_put (cs := #[.int .i64 0, .int .i64 0]) ?_ 0 _ rfl; (with_reducible repeat (first | refine blk_drewN ?_ _ | refine blk_drew ?_ | refine blk_alloc ?_ _)); refine blk_far ?_ NB104_109.out _; (with_reducible repeat (first | refine blk_drewN ?_ _ | refine blk_drew ?_ | refine blk_alloc ?_ _)); exact BK104.out) Try.underlying32 rfl (by kernel_rfl)) rfl ?_
    exact ⟨qq10, qq28, qq27, qq26⟩
   ·rw [if_neg c8] at H
    exact absurd H (by simp)
  ·rw [if_neg c7] at H
   exact absurd H (by simp)
 ·rw [if_neg c5] at H
  have c5b0 : (t110 == 0) = false := beq_eq_false_iff_ne.mpr c5
  have c5b1 : (t110 != 0) = true := bne_iff_ne.mpr c5
  by_cases c24 : t110 = 1
  ·rw [if_pos c24] at H
   have c24b0 : (t110 == 1) = true := beq_iff_eq.mpr c24
   have c24b1 : (t110 != 1) = false := bne_eq_false_iff_eq.mpr c24
   clear c24
   replace H := Option.bind_eq_some_iff.mp H
   obtain ⟨⟨t118, t119⟩, A250, H⟩ := H
   replace H : ((spec_l6Rd_pick.f k s0_0 t119 200).bind fun bt120 => (some (wrap64 ((wrap64 (t118 * 50)) - 5000), wrap64 ((wrap64 (bt120.1 * 50)) - 5000), bt120.2))) = some (r1, r2, r3) := H
   have A25 := Aside0.mk A250
   clear A250
   replace H := Option.bind_eq_some_iff.mp H
   obtain ⟨⟨t120, t121⟩, A260, H⟩ := H
   replace H : (some (wrap64 ((wrap64 (t118 * 50)) - 5000), wrap64 ((wrap64 (t120 * 50)) - 5000), t121)) = some (r1, r2, r3) := H
   have A26 := Aside0.mk A260
   clear A260
   simp only [Option.some.injEq, Prod.mk.injEq] at H
   obtain ⟨rfl, rfl, rfl⟩ := H
   go_enter Try.func55, Try.ntmps55
   go_wp2_with (first | ((with_reducible refine gate_dst (N := 2) rfl ?_); refine box_event ?hg (N := 2) ?hd (cs := #[.int .i64 0, .int .i64 0]) (t := 32) ?hr ?_; (case hd => rfl); (case hg => rfl); (case hr => exact qq22); intro gb104 hg w27 hbox hb; have n0_ := Aside0.mk (IsS81.below qq8 hb); have n1_ := Aside0.mk (KeepBut.trans qq4 (KeepBut.of_below hb g none) (.inl rfl)); have n2_ := Aside0.mk (below_step qq6 hb); have n3_ := Aside0.mk (hbox); have n4_ := Aside0.mk ((qq64 : w.heap.size ≤ gb104)); have n5_ := Aside0.mk ((Nat.le_trans HW0.out (qq64 : w.heap.size ≤ gb104) : w0.heap.size ≤ gb104)); have n6_ := Aside0.mk ((qq51 : g ≠ gb104)); have n7_ := Aside0.mk ((qq52 : gb104 ≠ g)); clear HI0; clear HK; clear HB; have HI0 := n0_; have HK := n1_; have HB := n2_; have BK104 := n3_; have GW104 := n4_; have GE104 := n5_; have NB0_104 := n6_; have NB104_0 := n7_; clear n0_ n1_ n2_ n3_ n4_ n5_ n6_ n7_; clear hb hbox hg) | ((with_reducible refine gate_callee (f := 48) rfl ?_); refine goesL_ (some 5) rfl rfl Try.func48 (by kernel_rfl) rfl #[.pointer (some ⟨g, 0, none⟩), .int .i64 13] rfl qq3 ?_; (with_reducible refine (spec_l6Rd_pick.calls k g s0_0 s0_1 13 t105 t106 w0 _ ?side1 ?side2 A2.out).mono ?_); (case side1 => exact qq30); (case side2 => exact qq29); rintro e w28 ⟨rfl, hi, hb, hk⟩; refine ⟨_, rfl, ?_⟩; have n0_ := Aside0.mk (KeepBut.blk hk (g' := gb104) (o := .cells #[.int .i64 0, .int .i64 0] 32 (0, 0)) (qq12 BK104.out) NB104_0.out (by simp)); have n1_ := Aside0.mk (KeepBut.trans qq24 hk (.inl rfl)); have n2_ := Aside0.mk (hb); have n3_ := Aside0.mk (hi); clear BK104; clear HK; clear HB; clear HI0; have BK104 := n0_; have HK := n1_; have HB := n2_; have HI0 := n3_; clear n0_ n1_ n2_ n3_; (try clear hb); (try clear hb2); (try clear hk); (try clear hi)) | ((with_reducible refine gate_callee (f := 48) rfl ?_); refine goesL_ (some 8) rfl rfl Try.func48 (by kernel_rfl) rfl #[.pointer (some ⟨g, 0, none⟩), .int .i64 13] rfl qq3 ?_; (with_reducible refine (spec_l6Rd_pick.calls k g s0_0 t106 13 t107 t108 w0 _ ?side1 ?side2 A3.out).mono ?_); (case side1 => exact qq30); (case side2 => exact qq29); rintro e w29 ⟨rfl, hi, hb, hk⟩; refine ⟨_, rfl, ?_⟩; have n0_ := Aside0.mk (KeepBut.blk hk (g' := gb104) (o := .cells #[.int .i64 0, .int .i64 0] 32 (0, 0)) (qq12 BK104.out) NB104_0.out (by simp)); have n1_ := Aside0.mk (KeepBut.trans qq24 hk (.inl rfl)); have n2_ := Aside0.mk (hb); have n3_ := Aside0.mk (hi); clear BK104; clear HK; clear HB; clear HI0; have BK104 := n0_; have HK := n1_; have HB := n2_; have HI0 := n3_; clear n0_ n1_ n2_ n3_; (try clear hb); (try clear hb2); (try clear hk); (try clear hi)) | ((with_reducible refine gate_dst (N := 3) rfl ?_); refine box_event ?hg (N := 3) ?hd (cs := #[.int .i64 0, .int .i64 0]) (t := 32) ?hr ?_; (case hd => rfl); (case hg => rfl); (case hr => exact qq22); intro gb109 hg w30 hbox hb; have n0_ := Aside0.mk (IsS81.below qq30 hb); have n1_ := Aside0.mk (bbl_ BK104.out hb); have n2_ := Aside0.mk (KeepBut.trans qq24 (KeepBut.of_below hb g none) (.inl rfl)); have n3_ := Aside0.mk (below_step qq29 hb); have n4_ := Aside0.mk (hbox); have n5_ := Aside0.mk ((qq63 : w.heap.size ≤ gb109)); have n6_ := Aside0.mk ((Nat.le_trans HW0.out (qq63 : w.heap.size ≤ gb109) : w0.heap.size ≤ gb109)); have n7_ := Aside0.mk ((qq31 BK104.out : gb104 ≠ gb109)); have n8_ := Aside0.mk ((qq32 BK104.out : gb109 ≠ gb104)); have n9_ := Aside0.mk ((qq45 : g ≠ gb109)); have n10_ := Aside0.mk ((qq46 : gb109 ≠ g)); clear HI0; clear BK104; clear HK; clear HB; have HI0 := n0_; have BK104 := n1_; have HK := n2_; have HB := n3_; have BK109 := n4_; have GW109 := n5_; have GE109 := n6_; have NB104_109 := n7_; have NB109_104 := n8_; have NB0_109 := n9_; have NB109_0 := n10_; clear n0_ n1_ n2_ n3_ n4_ n5_ n6_ n7_ n8_ n9_ n10_; clear hb hbox hg; have hnb31 := NB109_104.out; have hnc31 := NB104_109.out; have hnb32 := NB109_0.out; have hnc32 := NB0_109.out; have hcz33_0 : w30.cell? ⟨gb109, 0, none⟩ = some (.int .i64 0) := (blk_cell BK109.out 0).trans rfl; have hcz33_1 : w30.cell? ⟨gb109, 1, none⟩ = some (.int .i64 0) := (blk_cell BK109.out 1).trans rfl; have hfz33_0 := blk_frozen BK109.out 0; have hfz33_1 := blk_frozen BK109.out 1) | ((with_reducible refine gate_callee (f := 48) rfl ?_); refine goesL_ (some 12) rfl rfl Try.func48 (by kernel_rfl) rfl #[.pointer (some ⟨g, 0, none⟩), .int .i64 40] rfl qq3 ?_; (with_reducible refine (spec_l6Rd_pick.calls k g s0_0 t108 40 t110 t111 w0 _ ?side1 ?side2 A4.out).mono ?_); (case side1 => exact qq28); (case side2 => exact qq27); rintro e w34 ⟨rfl, hi, hb, hk⟩; refine ⟨_, rfl, ?_⟩; have n0_ := Aside0.mk (KeepBut.blk hk (g' := gb104) (o := .cells #[.int .i64 0, .int .i64 0] 32 (0, 0)) (qq17 NB104_109.out BK104.out) NB104_0.out (by simp)); have n1_ := Aside0.mk (KeepBut.blk hk (g' := gb109) (o := .cells #[.int .i64 (wrap64 (t105 - 6)), .int .i64 (wrap64 (t107 - 6))] 32 (0, 0)) (qq33 BK109.out) NB109_0.out (by simp)); have n2_ := Aside0.mk (KeepBut.trans qq26 hk (.inl rfl)); have n3_ := Aside0.mk (hb); have n4_ := Aside0.mk (hi); clear BK104; clear BK109; clear HK; clear HB; clear HI0; have BK104 := n0_; have BK109 := n1_; have HK := n2_; have HB := n3_; have HI0 := n4_; clear n0_ n1_ n2_ n3_ n4_; (try clear hb); (try clear hb2); (try clear hk); (try clear hi)) | ((with_reducible refine gate_callee (f := 48) rfl ?_); refine goesL_ (some 24) rfl rfl Try.func48 (by kernel_rfl) rfl #[.pointer (some ⟨g, 0, none⟩), .int .i64 200] rfl qq3 ?_; (with_reducible refine (spec_l6Rd_pick.calls k g s0_0 t111 200 t118 t119 w0 _ ?side1 ?side2 A25.out).mono ?_); (case side1 => exact qq28); (case side2 => exact qq27); rintro e w35 ⟨rfl, hi, hb, hk⟩; refine ⟨_, rfl, ?_⟩; have n0_ := Aside0.mk (KeepBut.blk hk (g' := gb104) (o := .cells #[.int .i64 0, .int .i64 0] 32 (0, 0)) (qq12 BK104.out) NB104_0.out (by simp)); have n1_ := Aside0.mk (KeepBut.blk hk (g' := gb109) (o := .cells #[.int .i64 (wrap64 (t105 - 6)), .int .i64 (wrap64 (t107 - 6))] 32 (0, 0)) (qq12 BK109.out) NB109_0.out (by simp)); have n2_ := Aside0.mk (KeepBut.trans qq26 hk (.inl rfl)); have n3_ := Aside0.mk (hb); have n4_ := Aside0.mk (hi); clear BK104; clear BK109; clear HK; clear HB; clear HI0; have BK104 := n0_; have BK109 := n1_; have HK := n2_; have HB := n3_; have HI0 := n4_; clear n0_ n1_ n2_ n3_ n4_; (try clear hb); (try clear hb2); (try clear hk); (try clear hi)) | ((with_reducible refine gate_callee (f := 48) rfl ?_); refine goesL_ (some 28) rfl rfl Try.func48 (by kernel_rfl) rfl #[.pointer (some ⟨g, 0, none⟩), .int .i64 200] rfl qq3 ?_; (with_reducible refine (spec_l6Rd_pick.calls k g s0_0 t119 200 t120 t121 w0 _ ?side1 ?side2 A26.out).mono ?_); (case side1 => exact qq28); (case side2 => exact qq27); rintro e w36 ⟨rfl, hi, hb, hk⟩; refine ⟨_, rfl, ?_⟩; have n0_ := Aside0.mk (KeepBut.blk hk (g' := gb104) (o := .cells #[.int .i64 0, .int .i64 0] 32 (0, 0)) (qq12 BK104.out) NB104_0.out (by simp)); have n1_ := Aside0.mk (KeepBut.blk hk (g' := gb109) (o := .cells #[.int .i64 (wrap64 (t105 - 6)), .int .i64 (wrap64 (t107 - 6))] 32 (0, 0)) (qq12 BK109.out) NB109_0.out (by simp)); have n2_ := Aside0.mk (KeepBut.trans qq26 hk (.inl rfl)); have n3_ := Aside0.mk (hb); have n4_ := Aside0.mk (hi); clear BK104; clear BK109; clear HK; clear HB; clear HI0; have BK104 := n0_; have BK109 := n1_; have HK := n2_; have HB := n3_; have HI0 := n4_; clear n0_ n1_ n2_ n3_ n4_; (try clear hb); (try clear hb2); (try clear hk); (try clear hi); have hnb37 := NB104_0.out; have hnc37 := NB0_104.out; have hcz38_0 : w36.cell? ⟨gb104, 0, none⟩ = some (.int .i64 0) := (blk_cell BK104.out 0).trans rfl; have hcz38_1 : w36.cell? ⟨gb104, 1, none⟩ = some (.int .i64 0) := (blk_cell BK104.out 1).trans rfl; have hfz38_0 := blk_frozen BK104.out 0; have hfz38_1 := blk_frozen BK104.out 1))
   refine bodyPost_ret (results_cell_row rfl _ _ gb104 32 #[.int .i64 (wrap64 ((wrap64 (t118 * 50)) - 5000)), .int .i64 (wrap64 ((wrap64 (t120 * 50)) - 5000))] (0, 0) _ rfl (by (with_reducible repeat (first | refine blk_drewN ?_ _ | refine blk_drew ?_ | refine blk_alloc ?_ _)); refine blk_put (cs := #[.int .i64 (wrap64 ((wrap64 (t118 * 50)) - 5000)), .int .i64 0]) ?_ 1 _ rfl; (with_reducible repeat (first | refine blk_drewN ?_ _ | refine blk_drew ?_ | refine blk_alloc ?_ _)); refine blk_put (cs := #[.int .i64 0, .int .i64 0]) ?_ 0 _ rfl; (with_reducible repeat (first | refine blk_drewN ?_ _ | refine blk_drew ?_ | refine blk_alloc ?_ _)); exact BK104.out) Try.underlying32 rfl (by kernel_rfl)) rfl ?_
   exact ⟨qq10, qq28, qq27, qq26⟩
  ·rw [if_neg c24] at H
   have c24b0 : (t110 == 1) = false := beq_eq_false_iff_ne.mpr c24
   have c24b1 : (t110 != 1) = true := bne_iff_ne.mpr c24
   simp only [Option.some.injEq, Prod.mk.injEq] at H
   obtain ⟨rfl, rfl, rfl⟩ := H
   go_enter Try.func55, Try.ntmps55
   go_wp2_with (first | ((with_reducible refine gate_dst (N := 2) rfl ?_); refine box_event ?hg (N := 2) ?hd (cs := #[.int .i64 0, .int .i64 0]) (t := 32) ?hr ?_; (case hd => rfl); (case hg => rfl); (case hr => exact qq22); intro gb104 hg w39 hbox hb; have n0_ := Aside0.mk (IsS81.below qq8 hb); have n1_ := Aside0.mk (KeepBut.trans qq4 (KeepBut.of_below hb g none) (.inl rfl)); have n2_ := Aside0.mk (below_step qq6 hb); have n3_ := Aside0.mk (hbox); have n4_ := Aside0.mk ((qq64 : w.heap.size ≤ gb104)); have n5_ := Aside0.mk ((Nat.le_trans HW0.out (qq64 : w.heap.size ≤ gb104) : w0.heap.size ≤ gb104)); have n6_ := Aside0.mk ((qq51 : g ≠ gb104)); have n7_ := Aside0.mk ((qq52 : gb104 ≠ g)); clear HI0; clear HK; clear HB; have HI0 := n0_; have HK := n1_; have HB := n2_; have BK104 := n3_; have GW104 := n4_; have GE104 := n5_; have NB0_104 := n6_; have NB104_0 := n7_; clear n0_ n1_ n2_ n3_ n4_ n5_ n6_ n7_; clear hb hbox hg) | ((with_reducible refine gate_callee (f := 48) rfl ?_); refine goesL_ (some 5) rfl rfl Try.func48 (by kernel_rfl) rfl #[.pointer (some ⟨g, 0, none⟩), .int .i64 13] rfl qq3 ?_; (with_reducible refine (spec_l6Rd_pick.calls k g s0_0 s0_1 13 t105 t106 w0 _ ?side1 ?side2 A2.out).mono ?_); (case side1 => exact qq30); (case side2 => exact qq29); rintro e w40 ⟨rfl, hi, hb, hk⟩; refine ⟨_, rfl, ?_⟩; have n0_ := Aside0.mk (KeepBut.blk hk (g' := gb104) (o := .cells #[.int .i64 0, .int .i64 0] 32 (0, 0)) (qq12 BK104.out) NB104_0.out (by simp)); have n1_ := Aside0.mk (KeepBut.trans qq24 hk (.inl rfl)); have n2_ := Aside0.mk (hb); have n3_ := Aside0.mk (hi); clear BK104; clear HK; clear HB; clear HI0; have BK104 := n0_; have HK := n1_; have HB := n2_; have HI0 := n3_; clear n0_ n1_ n2_ n3_; (try clear hb); (try clear hb2); (try clear hk); (try clear hi)) | ((with_reducible refine gate_callee (f := 48) rfl ?_); refine goesL_ (some 8) rfl rfl Try.func48 (by kernel_rfl) rfl #[.pointer (some ⟨g, 0, none⟩), .int .i64 13] rfl qq3 ?_; (with_reducible refine (spec_l6Rd_pick.calls k g s0_0 t106 13 t107 t108 w0 _ ?side1 ?side2 A3.out).mono ?_); (case side1 => exact qq30); (case side2 => exact qq29); rintro e w41 ⟨rfl, hi, hb, hk⟩; refine ⟨_, rfl, ?_⟩; have n0_ := Aside0.mk (KeepBut.blk hk (g' := gb104) (o := .cells #[.int .i64 0, .int .i64 0] 32 (0, 0)) (qq12 BK104.out) NB104_0.out (by simp)); have n1_ := Aside0.mk (KeepBut.trans qq24 hk (.inl rfl)); have n2_ := Aside0.mk (hb); have n3_ := Aside0.mk (hi); clear BK104; clear HK; clear HB; clear HI0; have BK104 := n0_; have HK := n1_; have HB := n2_; have HI0 := n3_; clear n0_ n1_ n2_ n3_; (try clear hb); (try clear hb2); (try clear hk); (try clear hi)) | ((with_reducible refine gate_dst (N := 3) rfl ?_); refine box_event ?hg (N := 3) ?hd (cs := #[.int .i64 0, .int .i64 0]) (t := 32) ?hr ?_; (case hd => rfl); (case hg => rfl); (case hr => exact qq22); intro gb109 hg w42 hbox hb; have n0_ := Aside0.mk (IsS81.below qq30 hb); have n1_ := Aside0.mk (bbl_ BK104.out hb); have n2_ := Aside0.mk (KeepBut.trans qq24 (KeepBut.of_below hb g none) (.inl rfl)); have n3_ := Aside0.mk (below_step qq29 hb); have n4_ := Aside0.mk (hbox); have n5_ := Aside0.mk ((qq63 : w.heap.size ≤ gb109)); have n6_ := Aside0.mk ((Nat.le_trans HW0.out (qq63 : w.heap.size ≤ gb109) : w0.heap.size ≤ gb109)); have n7_ := Aside0.mk ((qq31 BK104.out : gb104 ≠ gb109)); have n8_ := Aside0.mk ((qq32 BK104.out : gb109 ≠ gb104)); have n9_ := Aside0.mk ((qq45 : g ≠ gb109)); have n10_ := Aside0.mk ((qq46 : gb109 ≠ g)); clear HI0; clear BK104; clear HK; clear HB; have HI0 := n0_; have BK104 := n1_; have HK := n2_; have HB := n3_; have BK109 := n4_; have GW109 := n5_; have GE109 := n6_; have NB104_109 := n7_; have NB109_104 := n8_; have NB0_109 := n9_; have NB109_0 := n10_; clear n0_ n1_ n2_ n3_ n4_ n5_ n6_ n7_ n8_ n9_ n10_; clear hb hbox hg; have hnb43 := NB109_104.out; have hnc43 := NB104_109.out; have hnb44 := NB109_0.out; have hnc44 := NB0_109.out; have hcz45_0 : w42.cell? ⟨gb109, 0, none⟩ = some (.int .i64 0) := (blk_cell BK109.out 0).trans rfl; have hcz45_1 : w42.cell? ⟨gb109, 1, none⟩ = some (.int .i64 0) := (blk_cell BK109.out 1).trans rfl; have hfz45_0 := blk_frozen BK109.out 0; have hfz45_1 := blk_frozen BK109.out 1) | ((with_reducible refine gate_callee (f := 48) rfl ?_); refine goesL_ (some 12) rfl rfl Try.func48 (by kernel_rfl) rfl #[.pointer (some ⟨g, 0, none⟩), .int .i64 40] rfl qq3 ?_; (with_reducible refine (spec_l6Rd_pick.calls k g s0_0 t108 40 t110 t111 w0 _ ?side1 ?side2 A4.out).mono ?_); (case side1 => exact qq28); (case side2 => exact qq27); rintro e w46 ⟨rfl, hi, hb, hk⟩; refine ⟨_, rfl, ?_⟩; have n0_ := Aside0.mk (KeepBut.blk hk (g' := gb104) (o := .cells #[.int .i64 0, .int .i64 0] 32 (0, 0)) (qq17 NB104_109.out BK104.out) NB104_0.out (by simp)); have n1_ := Aside0.mk (KeepBut.blk hk (g' := gb109) (o := .cells #[.int .i64 (wrap64 (t105 - 6)), .int .i64 (wrap64 (t107 - 6))] 32 (0, 0)) (qq33 BK109.out) NB109_0.out (by simp)); have n2_ := Aside0.mk (KeepBut.trans qq26 hk (.inl rfl)); have n3_ := Aside0.mk (hb); have n4_ := Aside0.mk (hi); clear BK104; clear BK109; clear HK; clear HB; clear HI0; have BK104 := n0_; have BK109 := n1_; have HK := n2_; have HB := n3_; have HI0 := n4_; clear n0_ n1_ n2_ n3_ n4_; (try clear hb); (try clear hb2); (try clear hk); (try clear hi); have hcz47_0 : w46.cell? ⟨gb109, 0, none⟩ = some (.int .i64 (wrap64 (t105 - 6))) := (blk_cell BK109.out 0).trans rfl; have hcz47_1 : w46.cell? ⟨gb109, 1, none⟩ = some (.int .i64 (wrap64 (t107 - 6))) := (blk_cell BK109.out 1).trans rfl; have hfz47_0 := blk_frozen BK109.out 0; have hfz47_1 := blk_frozen BK109.out 1; have hnb48 := NB104_0.out; have hnc48 := NB0_104.out; have hcz49_0 : w46.cell? ⟨gb104, 0, none⟩ = some (.int .i64 0) := (blk_cell BK104.out 0).trans rfl; have hcz49_1 : w46.cell? ⟨gb104, 1, none⟩ = some (.int .i64 0) := (blk_cell BK104.out 1).trans rfl; have hfz49_0 := blk_frozen BK104.out 0; have hfz49_1 := blk_frozen BK104.out 1))
   refine bodyPost_ret (results_cell_row rfl _ _ gb104 32 #[.int .i64 (wrap64 (t105 - 6)), .int .i64 (wrap64 (t107 - 6))] (0, 0) _ rfl (qq33 BK104.out) Try.underlying32 rfl (by kernel_rfl)) rfl ?_
   exact ⟨qq10, qq28, qq27, qq26⟩

end Go.Proofs.Ytgdhgncdpmalcaa.Q
namespace Go.Proofs.Ytgdhgncdpmalcaa.Q
open Go.RowKit Go.Proofs.YtgdhgncdpmalcaaW.PrintWords Go.Proofs.YtgdhgncdpmalcaaW.PrintLast Go.Proofs.YtgdhgncdpmalcaaW.PrintMore
attribute [local go_sem] max2_int min2_int max_two min_two max_three min_three max_four min_four
set_option linter.unusedVariables false
set_option linter.unusedSimpArgs false

/-! ### spec_l92Box: function 59 -/
def spec_l92Box.j0 : Nat → Int → Int → List (S32) → Bool → List Int → Int → Option ((List (S32)) × Int)
 | 0, _, _, _, _, _, _ => none
 | k + 1, x3, x4, x7, x47, x1000, x1001 => if x47 = true then ((some (([(⟨x3, x4⟩ : S32), (⟨wrap64 (x3 + 1), x4⟩ : S32)] : List (S32)) : List (S32))).bind fun y135 => (if 1 ≤ (x7.length : Int) then ((some (x7.drop 1 : List (S32))).bind fun y138 => (if y135.length + y138.length < 8796093022208 then ((some (y135 ++ y138 : List (S32))).bind fun y142 => ((spec_l6Rd_pick.f k x1000 x1001 3).bind fun bt145 => (if bt145.1 = 0 then (if 1 ≤ y142.length ∧ y142.length ≤ 100 then (some (y142.drop 1 ++ [rd_T32 y142 0], bt145.2)) else none) else (some (y142, bt145.2))))) else (none))) else (none))) else ((spec_l6Rd_pick.f k x1000 x1001 3).bind fun bt147 => (if bt147.1 = 0 then (if 1 ≤ x7.length ∧ x7.length ≤ 100 then (some (x7.drop 1 ++ [rd_T32 x7 0], bt147.2)) else none) else (some (x7, bt147.2))))
def spec_l92Box.f (k : Nat) (s0_0 : List Int) (s0_1 : Int) : Option ((List (S32)) × Int) := (spec_l6Rd_pick.f k s0_0 s0_1 5).bind fun bt122 => ((spec_l6Rd_pick.f k s0_0 bt122.2 5).bind fun bt124 => ((spec_l6Rd_pick.f k s0_0 bt124.2 5).bind fun bt126 => ((spec_l6Rd_pick.f k s0_0 bt126.2 5).bind fun bt128 => ((some (([(⟨wrap64 (bt122.1 - 2), wrap64 (bt124.1 - 2)⟩ : S32), (⟨wrap64 ((wrap64 (bt122.1 - 2)) + (wrap64 (1 + bt126.1))), wrap64 (bt124.1 - 2)⟩ : S32), (⟨wrap64 ((wrap64 (bt122.1 - 2)) + (wrap64 (1 + bt126.1))), wrap64 ((wrap64 (bt124.1 - 2)) + (wrap64 (1 + bt128.1)))⟩ : S32), (⟨wrap64 (bt122.1 - 2), wrap64 ((wrap64 (bt124.1 - 2)) + (wrap64 (1 + bt128.1)))⟩ : S32)] : List (S32)) : List (S32))).bind fun y130 => (if (wrap64 (1 + bt126.1)) > 1 then ((spec_l6Rd_pick.f k s0_0 bt128.2 2).bind fun bt133 => (spec_l92Box.j0 k (wrap64 (bt122.1 - 2)) (wrap64 (bt124.1 - 2)) y130 (bt133.1 == 0) s0_0 bt133.2)) else (spec_l92Box.j0 k (wrap64 (bt122.1 - 2)) (wrap64 (bt124.1 - 2)) y130 false s0_0 bt128.2))))))
set_option maxHeartbeats 8000000 in
set_option maxRecDepth 100000 in
theorem spec_l92Box.calls (k : Nat) (g : Nat) (s0_0 : List Int) (s0_1 : Int) (r1 : List (S32)) (r2 : Int) (w0 w : World) (hI : IsS81 w0 w g s0_0 s0_1) (hB : Below w0.heap.size w0 w) (h : spec_l92Box.f k s0_0 s0_1 = some (r1, r2)) :
  Calls Try.prog 59 #[.pointer (some ⟨g, 0, none⟩)] w fun e w' => ∃ v0_ : Value, e = .returned (v0_) ∧ Kd.Q k32 32 w' w.heap.size (fun _ => True) v0_ r1 ∧ IsS81 w0 w' g s0_0 r2 ∧ Below w0.heap.size w0 w' ∧ KeepBut w w' g none := by
 have hu32 := Try.underlying32
 have HI0 := Aside0.mk hI
 have HK := Aside0.mk (KeepBut.refl w g none)
 have HL := Aside0.mk hB.size
 clear hI
 have HW0 := Aside0.mk hB.size
 have HB := Aside0.mk hB
 clear hB
 have H : ((spec_l6Rd_pick.f k s0_0 s0_1 5).bind fun bt122 => ((spec_l6Rd_pick.f k s0_0 bt122.2 5).bind fun bt124 => ((spec_l6Rd_pick.f k s0_0 bt124.2 5).bind fun bt126 => ((spec_l6Rd_pick.f k s0_0 bt126.2 5).bind fun bt128 => ((some (([(⟨wrap64 (bt122.1 - 2), wrap64 (bt124.1 - 2)⟩ : S32), (⟨wrap64 ((wrap64 (bt122.1 - 2)) + (wrap64 (1 + bt126.1))), wrap64 (bt124.1 - 2)⟩ : S32), (⟨wrap64 ((wrap64 (bt122.1 - 2)) + (wrap64 (1 + bt126.1))), wrap64 ((wrap64 (bt124.1 - 2)) + (wrap64 (1 + bt128.1)))⟩ : S32), (⟨wrap64 (bt122.1 - 2), wrap64 ((wrap64 (bt124.1 - 2)) + (wrap64 (1 + bt128.1)))⟩ : S32)] : List (S32)) : List (S32))).bind fun y130 => (if (wrap64 (1 + bt126.1)) > 1 then ((spec_l6Rd_pick.f k s0_0 bt128.2 2).bind fun bt133 => (spec_l92Box.j0 k (wrap64 (bt122.1 - 2)) (wrap64 (bt124.1 - 2)) y130 (bt133.1 == 0) s0_0 bt133.2)) else (spec_l92Box.j0 k (wrap64 (bt122.1 - 2)) (wrap64 (bt124.1 - 2)) y130 false s0_0 bt128.2))))))) = some (r1, r2) := h
 clear h
 replace H := Option.bind_eq_some_iff.mp H
 obtain ⟨⟨t122, t123⟩, A20, H⟩ := H
 replace H : ((spec_l6Rd_pick.f k s0_0 t123 5).bind fun bt124 => ((spec_l6Rd_pick.f k s0_0 bt124.2 5).bind fun bt126 => ((spec_l6Rd_pick.f k s0_0 bt126.2 5).bind fun bt128 => ((some (([(⟨wrap64 (t122 - 2), wrap64 (bt124.1 - 2)⟩ : S32), (⟨wrap64 ((wrap64 (t122 - 2)) + (wrap64 (1 + bt126.1))), wrap64 (bt124.1 - 2)⟩ : S32), (⟨wrap64 ((wrap64 (t122 - 2)) + (wrap64 (1 + bt126.1))), wrap64 ((wrap64 (bt124.1 - 2)) + (wrap64 (1 + bt128.1)))⟩ : S32), (⟨wrap64 (t122 - 2), wrap64 ((wrap64 (bt124.1 - 2)) + (wrap64 (1 + bt128.1)))⟩ : S32)] : List (S32)) : List (S32))).bind fun y130 => (if (wrap64 (1 + bt126.1)) > 1 then ((spec_l6Rd_pick.f k s0_0 bt128.2 2).bind fun bt133 => (spec_l92Box.j0 k (wrap64 (t122 - 2)) (wrap64 (bt124.1 - 2)) y130 (bt133.1 == 0) s0_0 bt133.2)) else (spec_l92Box.j0 k (wrap64 (t122 - 2)) (wrap64 (bt124.1 - 2)) y130 false s0_0 bt128.2)))))) = some (r1, r2) := H
 have A2 := Aside0.mk A20
 clear A20
 replace H := Option.bind_eq_some_iff.mp H
 obtain ⟨⟨t124, t125⟩, A30, H⟩ := H
 replace H : ((spec_l6Rd_pick.f k s0_0 t125 5).bind fun bt126 => ((spec_l6Rd_pick.f k s0_0 bt126.2 5).bind fun bt128 => ((some (([(⟨wrap64 (t122 - 2), wrap64 (t124 - 2)⟩ : S32), (⟨wrap64 ((wrap64 (t122 - 2)) + (wrap64 (1 + bt126.1))), wrap64 (t124 - 2)⟩ : S32), (⟨wrap64 ((wrap64 (t122 - 2)) + (wrap64 (1 + bt126.1))), wrap64 ((wrap64 (t124 - 2)) + (wrap64 (1 + bt128.1)))⟩ : S32), (⟨wrap64 (t122 - 2), wrap64 ((wrap64 (t124 - 2)) + (wrap64 (1 + bt128.1)))⟩ : S32)] : List (S32)) : List (S32))).bind fun y130 => (if (wrap64 (1 + bt126.1)) > 1 then ((spec_l6Rd_pick.f k s0_0 bt128.2 2).bind fun bt133 => (spec_l92Box.j0 k (wrap64 (t122 - 2)) (wrap64 (t124 - 2)) y130 (bt133.1 == 0) s0_0 bt133.2)) else (spec_l92Box.j0 k (wrap64 (t122 - 2)) (wrap64 (t124 - 2)) y130 false s0_0 bt128.2))))) = some (r1, r2) := H
 have A3 := Aside0.mk A30
 clear A30
 replace H := Option.bind_eq_some_iff.mp H
 obtain ⟨⟨t126, t127⟩, A40, H⟩ := H
 replace H : ((spec_l6Rd_pick.f k s0_0 t127 5).bind fun bt128 => ((some (([(⟨wrap64 (t122 - 2), wrap64 (t124 - 2)⟩ : S32), (⟨wrap64 ((wrap64 (t122 - 2)) + (wrap64 (1 + t126))), wrap64 (t124 - 2)⟩ : S32), (⟨wrap64 ((wrap64 (t122 - 2)) + (wrap64 (1 + t126))), wrap64 ((wrap64 (t124 - 2)) + (wrap64 (1 + bt128.1)))⟩ : S32), (⟨wrap64 (t122 - 2), wrap64 ((wrap64 (t124 - 2)) + (wrap64 (1 + bt128.1)))⟩ : S32)] : List (S32)) : List (S32))).bind fun y130 => (if (wrap64 (1 + t126)) > 1 then ((spec_l6Rd_pick.f k s0_0 bt128.2 2).bind fun bt133 => (spec_l92Box.j0 k (wrap64 (t122 - 2)) (wrap64 (t124 - 2)) y130 (bt133.1 == 0) s0_0 bt133.2)) else (spec_l92Box.j0 k (wrap64 (t122 - 2)) (wrap64 (t124 - 2)) y130 false s0_0 bt128.2)))) = some (r1, r2) := H
 have A4 := Aside0.mk A40
 clear A40
 replace H := Option.bind_eq_some_iff.mp H
 obtain ⟨⟨t128, t129⟩, A50, H⟩ := H
 replace H : ((some (([(⟨wrap64 (t122 - 2), wrap64 (t124 - 2)⟩ : S32), (⟨wrap64 ((wrap64 (t122 - 2)) + (wrap64 (1 + t126))), wrap64 (t124 - 2)⟩ : S32), (⟨wrap64 ((wrap64 (t122 - 2)) + (wrap64 (1 + t126))), wrap64 ((wrap64 (t124 - 2)) + (wrap64 (1 + t128)))⟩ : S32), (⟨wrap64 (t122 - 2), wrap64 ((wrap64 (t124 - 2)) + (wrap64 (1 + t128)))⟩ : S32)] : List (S32)) : List (S32))).bind fun y130 => (if (wrap64 (1 + t126)) > 1 then ((spec_l6Rd_pick.f k s0_0 t129 2).bind fun bt133 => (spec_l92Box.j0 k (wrap64 (t122 - 2)) (wrap64 (t124 - 2)) y130 (bt133.1 == 0) s0_0 bt133.2)) else (spec_l92Box.j0 k (wrap64 (t122 - 2)) (wrap64 (t124 - 2)) y130 false s0_0 t129))) = some (r1, r2) := H
 have A5 := Aside0.mk A50
 clear A50
 obtain ⟨y130, hy130⟩ : ∃ y_ : List (S32), y_ = (([(⟨wrap64 (t122 - 2), wrap64 (t124 - 2)⟩ : S32), (⟨wrap64 ((wrap64 (t122 - 2)) + (wrap64 (1 + t126))), wrap64 (t124 - 2)⟩ : S32), (⟨wrap64 ((wrap64 (t122 - 2)) + (wrap64 (1 + t126))), wrap64 ((wrap64 (t124 - 2)) + (wrap64 (1 + t128)))⟩ : S32), (⟨wrap64 (t122 - 2), wrap64 ((wrap64 (t124 - 2)) + (wrap64 (1 + t128)))⟩ : S32)] : List (S32))) := ⟨_, rfl⟩
 replace H : (if (wrap64 (1 + t126)) > 1 then ((spec_l6Rd_pick.f k s0_0 t129 2).bind fun bt133 => (spec_l92Box.j0 k (wrap64 (t122 - 2)) (wrap64 (t124 - 2)) y130 (bt133.1 == 0) s0_0 bt133.2)) else (spec_l92Box.j0 k (wrap64 (t122 - 2)) (wrap64 (t124 - 2)) y130 false s0_0 t129)) = some (r1, r2) := by first | (rw [hy130]; with_reducible exact H) | (have H2_ := (Option.bind_some _ _).symm.trans H; rw [hy130]; with_reducible exact H2_) | (have H2_ := (Option.bind_some _ _).symm.trans H; with_reducible exact H2_) | with_reducible exact H | (rw [hy130]; exact H) | exact H
 have Ny130 := Aside0.mk hy130
 clear hy130
 have HC6 := Aside0.mk H
 clear H
 go_enter Try.func59, Try.ntmps59
 go_upto_region 6 with (first | ((with_reducible refine gate_callee (f := 48) rfl ?_); refine goesL_ (some 9) rfl rfl Try.func48 (by kernel_rfl) rfl #[.pointer (some ⟨g, 0, none⟩), .int .i64 5] rfl qq3 ?_; (with_reducible refine (spec_l6Rd_pick.calls k g s0_0 s0_1 5 t122 t123 w0 _ ?side1 ?side2 A2.out).mono ?_); (case side1 => exact qq8); (case side2 => exact qq6); rintro e w7 ⟨rfl, hi, hb, hk⟩; refine ⟨_, rfl, ?_⟩; have n0_ := Aside0.mk (KeepBut.trans qq4 hk (.inl rfl)); have n1_ := Aside0.mk (hb); have n2_ := Aside0.mk (hi); clear HK; clear HB; clear HI0; have HK := n0_; have HB := n1_; have HI0 := n2_; clear n0_ n1_ n2_; (try clear hb); (try clear hb2); (try clear hk); (try clear hi)) | ((with_reducible refine gate_callee (f := 48) rfl ?_); refine goesL_ (some 12) rfl rfl Try.func48 (by kernel_rfl) rfl #[.pointer (some ⟨g, 0, none⟩), .int .i64 5] rfl qq3 ?_; (with_reducible refine (spec_l6Rd_pick.calls k g s0_0 t123 5 t124 t125 w0 _ ?side1 ?side2 A3.out).mono ?_); (case side1 => exact qq8); (case side2 => exact qq6); rintro e w8 ⟨rfl, hi, hb, hk⟩; refine ⟨_, rfl, ?_⟩; have n0_ := Aside0.mk (KeepBut.trans qq4 hk (.inl rfl)); have n1_ := Aside0.mk (hb); have n2_ := Aside0.mk (hi); clear HK; clear HB; clear HI0; have HK := n0_; have HB := n1_; have HI0 := n2_; clear n0_ n1_ n2_; (try clear hb); (try clear hb2); (try clear hk); (try clear hi)) | ((with_reducible refine gate_callee (f := 48) rfl ?_); refine goesL_ (some 15) rfl rfl Try.func48 (by kernel_rfl) rfl #[.pointer (some ⟨g, 0, none⟩), .int .i64 5] rfl qq3 ?_; (with_reducible refine (spec_l6Rd_pick.calls k g s0_0 t125 5 t126 t127 w0 _ ?side1 ?side2 A4.out).mono ?_); (case side1 => exact qq8); (case side2 => exact qq6); rintro e w9 ⟨rfl, hi, hb, hk⟩; refine ⟨_, rfl, ?_⟩; have n0_ := Aside0.mk (KeepBut.trans qq4 hk (.inl rfl)); have n1_ := Aside0.mk (hb); have n2_ := Aside0.mk (hi); clear HK; clear HB; clear HI0; have HK := n0_; have HB := n1_; have HI0 := n2_; clear n0_ n1_ n2_; (try clear hb); (try clear hb2); (try clear hk); (try clear hi)) | ((with_reducible refine gate_callee (f := 48) rfl ?_); refine goesL_ (some 18) rfl rfl Try.func48 (by kernel_rfl) rfl #[.pointer (some ⟨g, 0, none⟩), .int .i64 5] rfl qq3 ?_; (with_reducible refine (spec_l6Rd_pick.calls k g s0_0 t127 5 t128 t129 w0 _ ?side1 ?side2 A5.out).mono ?_); (case side1 => exact qq8); (case side2 => exact qq6); rintro e w10 ⟨rfl, hi, hb, hk⟩; refine ⟨_, rfl, ?_⟩; have n0_ := Aside0.mk (KeepBut.trans qq4 hk (.inl rfl)); have n1_ := Aside0.mk (hb); have n2_ := Aside0.mk (hi); clear HK; clear HB; clear HI0; have HK := n0_; have HB := n1_; have HI0 := n2_; clear n0_ n1_ n2_; (try clear hb); (try clear hb2); (try clear hk); (try clear hi)) | ((with_reducible refine gate_dst (N := 40) rfl ?_); refine Kd.R_lit k32 _ 32 ?hg (N := 40) ?hd (xs := ([(⟨wrap64 (t122 - 2), wrap64 (t124 - 2)⟩ : S32), (⟨wrap64 ((wrap64 (t122 - 2)) + (wrap64 (1 + t126))), wrap64 (t124 - 2)⟩ : S32), (⟨wrap64 ((wrap64 (t122 - 2)) + (wrap64 (1 + t126))), wrap64 ((wrap64 (t124 - 2)) + (wrap64 (1 + t128)))⟩ : S32), (⟨wrap64 (t122 - 2), wrap64 ((wrap64 (t124 - 2)) + (wrap64 (1 + t128)))⟩ : S32)] : List (S32))) (inner := [.int .i64 (wrap64 (t122 - 2)), .int .i64 (wrap64 (t124 - 2)), .int .i64 (wrap64 ((wrap64 (t122 - 2)) + (wrap64 (1 + t126)))), .int .i64 (wrap64 (t124 - 2)), .int .i64 (wrap64 ((wrap64 (t122 - 2)) + (wrap64 (1 + t126)))), .int .i64 (wrap64 ((wrap64 (t124 - 2)) + (wrap64 (1 + t128)))), .int .i64 (wrap64 (t122 - 2)), .int .i64 (wrap64 ((wrap64 (t124 - 2)) + (wrap64 (1 + t128))))]) (ok := fun _ => True) (okp := fun _ => True) ?hr ?hp (fun _ hk => hk) trivial (Below.refl _ _) (Nat.le_refl _) (by simp) ?_; (case hd => rfl); (case hg => rfl); (case hr => exact qq22); (case hp => exact (Reps.c2 (show Kd.M k32 _ _ _ (⟨wrap64 (t122 - 2), wrap64 (t124 - 2)⟩ : S32) [.int .i64 (wrap64 (t122 - 2)), .int .i64 (wrap64 (t124 - 2))] from (k32_mkM _ _ _ (⟨wrap64 (t122 - 2), wrap64 (t124 - 2)⟩ : S32) )) (Reps.c2 (show Kd.M k32 _ _ _ (⟨wrap64 ((wrap64 (t122 - 2)) + (wrap64 (1 + t126))), wrap64 (t124 - 2)⟩ : S32) [.int .i64 (wrap64 ((wrap64 (t122 - 2)) + (wrap64 (1 + t126)))), .int .i64 (wrap64 (t124 - 2))] from (k32_mkM _ _ _ (⟨wrap64 ((wrap64 (t122 - 2)) + (wrap64 (1 + t126))), wrap64 (t124 - 2)⟩ : S32) )) (Reps.c2 (show Kd.M k32 _ _ _ (⟨wrap64 ((wrap64 (t122 - 2)) + (wrap64 (1 + t126))), wrap64 ((wrap64 (t124 - 2)) + (wrap64 (1 + t128)))⟩ : S32) [.int .i64 (wrap64 ((wrap64 (t122 - 2)) + (wrap64 (1 + t126)))), .int .i64 (wrap64 ((wrap64 (t124 - 2)) + (wrap64 (1 + t128))))] from (k32_mkM _ _ _ (⟨wrap64 ((wrap64 (t122 - 2)) + (wrap64 (1 + t126))), wrap64 ((wrap64 (t124 - 2)) + (wrap64 (1 + t128)))⟩ : S32) )) (Reps.c2 (show Kd.M k32 _ _ _ (⟨wrap64 (t122 - 2), wrap64 ((wrap64 (t124 - 2)) + (wrap64 (1 + t128)))⟩ : S32) [.int .i64 (wrap64 (t122 - 2)), .int .i64 (wrap64 ((wrap64 (t124 - 2)) + (wrap64 (1 + t128))))] from (k32_mkM _ _ _ (⟨wrap64 (t122 - 2), wrap64 ((wrap64 (t124 - 2)) + (wrap64 (1 + t128)))⟩ : S32) )) (Reps.none _ _)))))); intro v131 w11 ho12 hb hg_ hnew_; clear hg_ hnew_; (first | rw [← Ny130.out] at ho12 | (simp only [Int.reduceToNat] at ho12; rw [← Ny130.out] at ho12)); have n0_ := Aside0.mk (Kd.R_lower ho12 (keep_size (w := w) (g := g) (row := none) qq4)); have n1_ := Aside0.mk (IsS81.below qq8 hb); have n2_ := Aside0.mk (KeepBut.trans qq4 (KeepBut.of_below hb g none) (.inl rfl)); have n3_ := Aside0.mk (below_step qq6 hb); clear HI0; clear HK; clear HB; have HO132 := n0_; have HI0 := n1_; have HK := n2_; have HB := n3_; clear n0_ n1_ n2_ n3_; clear hb ho12))
 (try simp only [Act.put, List.setIfInBounds_toArray, List.set_cons_zero, List.set_cons_succ])
 go_cut [47] (fun v47 wc => ∃ (kq : Nat) (x47_5 : Bool) (x1001_5 : Int), v47 = .bool x47_5 ∧ Aside0 (spec_l92Box.j0 kq (wrap64 (t122 - 2)) (wrap64 (t124 - 2)) y130 x47_5 s0_0 x1001_5 = some (r1, r2)) ∧ Aside0 (kq ≤ k) ∧ Aside0 (Kd.R k32 32 wc w.heap.size (fun _ => True) v131 y130) ∧ Aside0 (IsS81 w0 wc g s0_0 x1001_5) ∧ Aside0 (KeepBut w wc g none) ∧ Aside0 (Below w0.heap.size w0 wc))
 case first =>
  have H := HC6.out
  clear HC6
  by_cases c13 : (wrap64 (1 + t126)) > 1
  ·rw [if_pos c13] at H
   have c13b0 : decide (1 < (wrap64 (1 + t126))) = true := decide_eq_true c13
   clear c13
   (first | rw [c13b0] | (simp only [i64_w, i32_w]; rw [c13b0]) | skip)
   replace H := Option.bind_eq_some_iff.mp H
   obtain ⟨⟨t133, t134⟩, A140, H⟩ := H
   replace H : (spec_l92Box.j0 k (wrap64 (t122 - 2)) (wrap64 (t124 - 2)) y130 (t133 == 0) s0_0 t134) = some (r1, r2) := H
   have A14 := Aside0.mk A140
   clear A140
   have H' := Aside0.mk H
   clear H
   go_wp2_with (first | (go_at_call 48; (with_reducible refine (spec_l6Rd_pick.calls k g s0_0 t129 2 t133 t134 w0 _ ?side1 ?side2 A14.out).mono ?_); (case side1 => exact qq8); (case side2 => exact qq6); rintro e w15 ⟨rfl, hi, hb, hk⟩; have n0_ := Aside0.mk (Kd.R_mono (Kd.R_keep (IsS81.apart (show IsS81 w0 _ g s0_0 t129 from by repeat (first | (with_reducible first | exact HI0.out | apply IsS81.alloc | apply IsS81.drewN | apply IsS81.drew | apply IsS81.set_1) | exact HI0.out)) (qq2 HO132.out) (by decide)) hk (fun _ h => h.2)) (fun _ h => h.1)); have n1_ := Aside0.mk (KeepBut.trans qq4 hk (.inl rfl)); have n2_ := Aside0.mk (hb); have n3_ := Aside0.mk (hi); clear HO132; clear HK; clear HB; clear HI0; have HO132 := n0_; have HK := n1_; have HB := n2_; have HI0 := n3_; clear n0_ n1_ n2_ n3_; (try clear hb); (try clear hb2); (try clear hk); (try clear hi)))
   go_meet
   case rel => exact ⟨_, ((t133 == 0)), (t134), qq25, H', ⟨qq40⟩, ⟨qq2 HO132.out⟩, ⟨qq8⟩, ⟨qq4⟩, ⟨qq6⟩⟩
  ·rw [if_neg c13] at H
   have c13b0 : decide (1 < (wrap64 (1 + t126))) = false := decide_eq_false c13
   clear c13
   (first | rw [c13b0] | (simp only [i64_w, i32_w]; rw [c13b0]) | skip)
   have H' := Aside0.mk H
   clear H
   go_wp2
   go_meet
   case rel => exact ⟨_, (false), (t129), qq25, H', ⟨qq40⟩, ⟨qq2 HO132.out⟩, ⟨qq8⟩, ⟨qq4⟩, ⟨qq6⟩⟩
 case rest =>
  clear HC6
  try clear c1
  try clear c2
  try clear p2
  try clear c4
  try clear c5
  try clear p6
  try clear c13
  try clear c13b0
  obtain ⟨kq, x47_5, x1001_5, rfl, HA, HJ5, HO_7, HI0, HK, HB⟩ := hcut
  cases kq with
  | zero => exact absurd HA.out (by simp [spec_l92Box.j0])
  | succ kj5 =>
   have H := HA.out
   clear HA
   simp only [spec_l92Box.j0] at H
   by_cases c16 : x47_5 = true
   ·subst c16
    have H1 : ((some (([(⟨(wrap64 (t122 - 2)), (wrap64 (t124 - 2))⟩ : S32), (⟨wrap64 ((wrap64 (t122 - 2)) + 1), (wrap64 (t124 - 2))⟩ : S32)] : List (S32)) : List (S32))).bind fun y135 => (if 1 ≤ (y130.length : Int) then ((some (y130.drop 1 : List (S32))).bind fun y138 => (if y135.length + y138.length < 8796093022208 then ((some (y135 ++ y138 : List (S32))).bind fun y142 => ((spec_l6Rd_pick.f kj5 s0_0 x1001_5 3).bind fun bt145 => (if bt145.1 = 0 then (if 1 ≤ y142.length ∧ y142.length ≤ 100 then (some (y142.drop 1 ++ [rd_T32 y142 0], bt145.2)) else none) else (some (y142, bt145.2))))) else (none))) else (none))) = some (r1, r2) := by rw [if_pos rfl] at H; exact H
    clear H
    have H := H1
    clear H1
    obtain ⟨y135, hy135⟩ : ∃ y_ : List (S32), y_ = (([(⟨(wrap64 (t122 - 2)), (wrap64 (t124 - 2))⟩ : S32), (⟨wrap64 ((wrap64 (t122 - 2)) + 1), (wrap64 (t124 - 2))⟩ : S32)] : List (S32))) := ⟨_, rfl⟩
    replace H : (if 1 ≤ (y130.length : Int) then ((some (y130.drop 1 : List (S32))).bind fun y138 => (if y135.length + y138.length < 8796093022208 then ((some (y135 ++ y138 : List (S32))).bind fun y142 => ((spec_l6Rd_pick.f kj5 s0_0 x1001_5 3).bind fun bt145 => (if bt145.1 = 0 then (if 1 ≤ y142.length ∧ y142.length ≤ 100 then (some (y142.drop 1 ++ [rd_T32 y142 0], bt145.2)) else none) else (some (y142, bt145.2))))) else (none))) else (none)) = some (r1, r2) := by first | (rw [hy135]; with_reducible exact H) | (have H2_ := (Option.bind_some _ _).symm.trans H; rw [hy135]; with_reducible exact H2_) | (have H2_ := (Option.bind_some _ _).symm.trans H; with_reducible exact H2_) | with_reducible exact H | (rw [hy135]; exact H) | exact H
    have Ny135 := Aside0.mk hy135
    clear hy135
    by_cases c17 : 1 ≤ (y130.length : Int)
    ·rw [if_pos c17] at H
     have c17b0 := eq_true c17
     have c17b1 : decide (1 ≤ (y130.length : Int)) = true := decide_eq_true c17
     clear c17
     obtain ⟨y138, hy138⟩ : ∃ y_ : List (S32), y_ = (y130.drop 1) := ⟨_, rfl⟩
     replace H : (if y135.length + y138.length < 8796093022208 then ((some (y135 ++ y138 : List (S32))).bind fun y142 => ((spec_l6Rd_pick.f kj5 s0_0 x1001_5 3).bind fun bt145 => (if bt145.1 = 0 then (if 1 ≤ y142.length ∧ y142.length ≤ 100 then (some (y142.drop 1 ++ [rd_T32 y142 0], bt145.2)) else none) else (some (y142, bt145.2))))) else (none)) = some (r1, r2) := by first | (rw [hy138]; with_reducible exact H) | (have H2_ := (Option.bind_some _ _).symm.trans H; rw [hy138]; with_reducible exact H2_) | (have H2_ := (Option.bind_some _ _).symm.trans H; with_reducible exact H2_) | with_reducible exact H | (rw [hy138]; exact H) | exact H
     have Ny138 := Aside0.mk hy138
     clear hy138
     by_cases c18 : y135.length + y138.length < 8796093022208
     ·rw [if_pos c18] at H
      have LMc18 := Aside0.mk c18
      clear c18
      obtain ⟨y142, hy142⟩ : ∃ y_ : List (S32), y_ = (y135 ++ y138) := ⟨_, rfl⟩
      replace H : ((spec_l6Rd_pick.f kj5 s0_0 x1001_5 3).bind fun bt145 => (if bt145.1 = 0 then (if 1 ≤ y142.length ∧ y142.length ≤ 100 then (some (y142.drop 1 ++ [rd_T32 y142 0], bt145.2)) else none) else (some (y142, bt145.2)))) = some (r1, r2) := by first | (rw [hy142]; with_reducible exact H) | (have H2_ := (Option.bind_some _ _).symm.trans H; rw [hy142]; with_reducible exact H2_) | (have H2_ := (Option.bind_some _ _).symm.trans H; with_reducible exact H2_) | with_reducible exact H | (rw [hy142]; exact H) | exact H
      have Ny142 := Aside0.mk hy142
      clear hy142
      replace H := Option.bind_eq_some_iff.mp H
      obtain ⟨⟨t145, t146⟩, A190, H⟩ := H
      replace H : (if t145 = 0 then (if 1 ≤ y142.length ∧ y142.length ≤ 100 then (some (y142.drop 1 ++ [rd_T32 y142 0], t146)) else none) else (some (y142, t146))) = some (r1, r2) := H
      have A19 := Aside0.mk A190
      clear A190
      by_cases c20 : t145 = 0
      ·rw [if_pos c20] at H
       have c20b0 : (t145 == 0) = true := beq_iff_eq.mpr c20
       have c20b1 : (t145 != 0) = false := bne_eq_false_iff_eq.mpr c20
       clear c20
       by_cases hl9 : 1 ≤ y142.length ∧ y142.length ≤ 100
       case neg => rw [if_neg hl9] at H; exact absurd H (by simp)
       rw [if_pos hl9] at H
       simp only [Option.some.injEq, Prod.mk.injEq] at H
       obtain ⟨hr1, rfl⟩ := H; have HR1 := Aside0.mk hr1; clear hr1
       go_wp2_with (first | ((with_reducible refine gate_dst (N := 55) rfl ?_); refine Kd.R_lit k32 _ 32 ?hg (N := 55) ?hd (xs := ([(⟨(wrap64 (t122 - 2)), (wrap64 (t124 - 2))⟩ : S32), (⟨wrap64 ((wrap64 (t122 - 2)) + 1), (wrap64 (t124 - 2))⟩ : S32)] : List (S32))) (inner := [.int .i64 (wrap64 (t122 - 2)), .int .i64 (wrap64 (t124 - 2)), .int .i64 (wrap64 ((wrap64 (t122 - 2)) + 1)), .int .i64 (wrap64 (t124 - 2))]) (ok := fun _ => True) (okp := fun _ => True) ?hr ?hp (fun _ hk => hk) trivial (Below.refl _ _) (Nat.le_refl _) (by simp) ?_; (case hd => rfl); (case hg => rfl); (case hr => exact qq22); (case hp => exact qq48); intro v136 w21 ho22 hb hg_ hnew_; clear hg_ hnew_; (first | rw [← Ny135.out] at ho22 | (simp only [Int.reduceToNat] at ho22; rw [← Ny135.out] at ho22)); have n0_ := Aside0.mk (Kd.R_elder' (qq2 HO_7.out) (Kd.R_base ho22) hb); have n1_ := Aside0.mk (Kd.R_lower (Kd.R_new' ho22 (Kd.R_lt (qq2 HO_7.out))) (keep_size (w := w) (g := g) (row := none) qq4)); have n2_ := Aside0.mk (IsS81.below qq8 hb); have n3_ := Aside0.mk (KeepBut.trans qq4 (KeepBut.of_below hb g none) (.inl rfl)); have n4_ := Aside0.mk (below_step qq6 hb); clear HO_7; clear HI0; clear HK; clear HB; have HO_7 := n0_; have HO137 := n1_; have HI0 := n2_; have HK := n3_; have HB := n4_; clear n0_ n1_ n2_ n3_ n4_; clear hb ho22; obtain ⟨Ao24, co24, eo24⟩ := Kd.R_slice HO_7.out; subst eo24; have q23 : (1 : Int) ≤ ((y130.length : Int) : Int) := of_decide_eq_true qq14; obtain ⟨i023, hi023, _, hsz23, _⟩ := info_parts info32; have hroom23 : y130.length ≤ co24 := (Kd.R_reads' HO_7.out).2.1; have hC23 : Kd.C k32 _ Ao24 y130.length y130 := (Kd.R_reads' HO_7.out).2.2; have hcut23 := cut_from (P := Try.prog) 23 32 .i64 Try.underlying23 hi023 2 hsz23 Ao24 y130.length co24 1 (by omega) q23; have hr23 := Kd.C_drop (m := (1 : Int).toNat) (c := co24) hC23 (by omega) hroom23; obtain ⟨A23, hA23⟩ : ∃ Az_, Az_ = (if co24 = (1 : Int).toNat then Ao24 else (Ao24 : Option Addr).map (·.add ((1 : Int).toNat * 2))) := ⟨_, rfl⟩; obtain ⟨c23, hc23⟩ : ∃ cz_, cz_ = co24 - (1 : Int).toNat := ⟨_, rfl⟩; have hy23 : y138.length = y130.length - (1 : Int).toNat := (qq73 Ny138.out); rw [show (y130).drop (1 : Int).toNat = y138 from Ny138.out.symm] at hr23; replace hr23 : Kd.C k32 _ A23 y138.length y138 := (by rw [hA23]; exact hr23); rw [← hy23, ← hA23, ← hc23] at hcut23; have HR141 := Aside0.mk hr23; have HC141 := Aside0.mk (show y138.length ≤ c23 from by rw [hy23, hc23]; exact Nat.sub_le_sub_right hroom23 _); clear hr23 hC23 hroom23 hi023 hsz23 hc23; have KY23 := Aside0.mk hy23; have KA23 := Aside0.mk hA23; clear hy23 hA23; have KL23 := Aside0.mk (show 1 ≤ y130.length from by omega); replace q23 := eq_true q23) | ((with_reducible refine gate_builtin (b := .append) (xs := #[.tmp 55, .tmp 57]) rfl ?_); at_builtin; refine Kd.R_append_rows k32 w.heap.size rfl (.tmp 55) (.tmp 57) 23 32 (.agg #[(.int .i64 0), (.int .i64 0)]) 16 rfl Try.underlying23 info32 rfl (by decide) (by omega) v136 y135 y138 _ _ _ (fun k_ => some k_ ≠ (.slice Ao24 y130.length co24 : Value).ownBlock) (fun _ => False) rfl rfl ?aO ?aR (fun _ _ h => h) (fun _ h => h.elim) ?aF (Below.refl _ _) ?aS ?aL ?_; (case aR => exact qq61); (case aF => exact qq47 HO_7.out); (case aO => exact (qq18 HO137.out)); (case aS => exact qq72); (case aL => have := LMc18.out; omega); intro v143 w25 ho hb hg hat; rw [← Ny142.out] at ho; have n0_ := Aside0.mk (Kd.R_after (ok := (fun _ => True)) (qq2 HO_7.out) hg hat); have n1_ := Aside0.mk (IsS81.grown qq8 hg (IsS81.own_ne HI0.out HO137.out (by decide))); have n2_ := Aside0.mk (below_weaken qq6 HL.out hb); have n3_ := Aside0.mk (KeepBut.trans qq4 (KeepBut.of_grown hg g) (Kd.R_base2 HO137.out)); have n4_ := Aside0.mk ((show Kd.C k32 w25 A23 y138.length y138 from by rw [Ny138.out, KA23.out]; exact Kd.C_drop (m := 1) (c := co24) ((Kd.R_reads' (Kd.R_after (ok := (fun _ => True)) (qq2 HO_7.out) hg hat)).2.2) KL23.out ((Kd.R_reads' (Kd.R_after (ok := (fun _ => True)) (qq2 HO_7.out) hg hat)).2.1))); have n5_ := Aside0.mk (ho); clear HO_7; clear HI0; clear HB; clear HK; clear HR141; clear HO137; have HO_7 := n0_; have HI0 := n1_; have HB := n2_; have HK := n3_; have HR141 := n4_; have HO144 := n5_; clear n0_ n1_ n2_ n3_ n4_ n5_; clear ho hb hg hat) | ((with_reducible refine gate_callee (f := 48) rfl ?_); refine goesL_ (some 60) rfl rfl Try.func48 (by kernel_rfl) rfl #[.pointer (some ⟨g, 0, none⟩), .int .i64 3] rfl qq3 ?_; (with_reducible refine (spec_l6Rd_pick.calls kj5 g s0_0 x1001_5 3 t145 t146 w0 _ ?side1 ?side2 A19.out).mono ?_); (case side1 => exact qq8); (case side2 => exact qq6); rintro e w26 ⟨rfl, hi, hb, hk⟩; refine ⟨_, rfl, ?_⟩; have n0_ := Aside0.mk (Kd.R_mono (Kd.R_keep (IsS81.apart (show IsS81 w0 _ g s0_0 x1001_5 from by repeat (first | (with_reducible first | exact HI0.out | apply IsS81.alloc | apply IsS81.drewN | apply IsS81.drew | apply IsS81.set_1) | exact HI0.out)) (qq2 HO_7.out) (by decide)) hk (fun _ h => h.2)) (fun _ h => h.1)); have n1_ := Aside0.mk (Kd.R_mono (Kd.R_keep (IsS81.apart (show IsS81 w0 _ g s0_0 x1001_5 from by repeat (first | (with_reducible first | exact HI0.out | apply IsS81.alloc | apply IsS81.drewN | apply IsS81.drew | apply IsS81.set_1) | exact HI0.out)) (qq2 HO144.out) (by decide)) hk (fun _ h => h.2)) (fun _ h => h.1)); have n2_ := Aside0.mk (KeepBut.trans qq4 hk (.inl rfl)); have n3_ := Aside0.mk (hb); have n4_ := Aside0.mk (hi); clear HO_7; clear HO144; clear HK; clear HB; clear HI0; have HO_7 := n0_; have HO144 := n1_; have HK := n2_; have HB := n3_; have HI0 := n4_; clear n0_ n1_ n2_ n3_ n4_; (try clear hb); (try clear hb2); (try clear hk); (try clear hi)))
       obtain ⟨WW, hWW, hR9⟩ : ∃ WW : World, WW = _ ∧ Kd.R k32 32 WW w.heap.size (fun _ => True) _ y142 := ⟨_, rfl, Kd.R_mono (ok' := fun _ => True) HO144.out (fun _ _ => trivial)⟩
       subst hWW
       obtain ⟨gq, cq, eq_, _, _, _⟩ := Kd.R_form hR9 (by omega)
       (first | subst eq_ | (injection eq_ with ea_ en_ ec_; (first | subst ea_ | (injection ea_ with ea_; subst ea_)); subst ec_; clear en_))
       have hQ9 := Kd.Q_of_R hR9
       have hc9 := (Kd.R_reads' hR9).2.1
       have hd9 := Kd.Q_drop (k := 1) hQ9 (by omega)
       obtain ⟨vc, hvc⟩ : ∃ vc, Value.slice (if cq = 1 then (some ⟨gq, 0, none⟩ : Option Addr) else (some ⟨gq, 0, none⟩ : Option Addr).map (·.add (1 * 2))) (y142.length - 1) (cq - 1) = vc := ⟨_, rfl⟩
       replace hd9 : Kd.Q k32 32 WW w.heap.size (fun _ => True) vc (y142.drop 1) := by rw [← hvc]; exact hd9
       obtain ⟨i9, hi9, _, hsz9, _⟩ := info_parts info32
       have hcut9 : ∀ W : World, (Instr.slice 23 (.slice (some ⟨gq, 0, none⟩) y142.length cq) (some (.int .i64 1)) none none).run Try.prog W = .ok vc W := fun W => by rw [← hvc]; exact cut_from (P := Try.prog) 23 32 .i64 Try.underlying23 hi9 2 hsz9 (some ⟨gq, 0, none⟩) y142.length cq 1 (by decide) (by omega) W
       obtain ⟨ad9, ead9, hx9, hy9⟩ := at_T32 (Kd.R_reads' hR9).2.2 0 (by decide) (by omega)
       cases ead9
       have hx9' : WW.cell? ⟨gq, 0, none⟩ = some (.int .i64 (rd_T32 y142 0).f0) := by simpa [Addr.add] using hx9
       have hy9' : WW.cell? ⟨gq, 1, none⟩ = some (.int .i64 (rd_T32 y142 0).f1) := by simpa [Addr.add] using hy9
       have hbs9 := HK.out.1
       have HQ9 := Aside0.mk hd9
       obtain ⟨p9, hp9⟩ : ∃ p, rd_T32 y142 0 = p := ⟨_, rfl⟩
       rw [hp9] at hx9' hy9'
       obtain ⟨y9, hy9_⟩ : ∃ y_, y142.drop 1 = y_ := ⟨_, rfl⟩
       have hyl9 : y9.length ≤ 100 := by rw [← hy9_, List.length_drop]; omega
       rw [hy9_] at HQ9
       clear hR9 hQ9 hd9 hvc hx9 hy9
       refine wpIn_wide (n := 0) |>.1 ?_
       have HF := Drawn.wide_plain Try.prog
       refine Drawn.act_name fun A0 hA0 => ?_
       obtain ⟨VS, hVS⟩ : ∃ VS : Value → Value → List (Option Tmp × Value), (fun u u' => [(some 62, .slice (some ⟨gq, 0, none⟩) y142.length cq), (some 63, vc), (some 64, .slice (some ⟨gq, 0, none⟩) y142.length cq), (some 65, .pointer (some ⟨gq, 0, none⟩)), (some 66, .agg #[.int .i64 p9.f0, .int .i64 p9.f1]), (some 67, .slice (some ⟨WW.heap.size, 0, none⟩) 1 1), (some 68, u), (some 2, u')]) = VS := ⟨_, rfl⟩
       have HN : ∀ u u', ((VS u u').filterMap (·.1)).Nodup := fun u u' => by rw [← hVS]; exact (show List.Nodup [(62 : Tmp), (63 : Tmp), (64 : Tmp), (65 : Tmp), (66 : Tmp), (67 : Tmp), (68 : Tmp), (2 : Tmp)] by decide)
       have E7 : ∀ (u u' : Value) (L : List Bool), (Drawn.fill (VS u u') L A0).tmps[7]?.getD undef = .slice (some ⟨gq, 0, none⟩) y142.length cq := fun u u' L => Drawn.fill_old _ _ _ qq77 (by rw [← hA0]; rfl)
       have E62 : ∀ (u u' : Value) (L : List Bool), L[0]? = some true → (Drawn.fill (VS u u') L A0).tmps[62]?.getD undef = .slice (some ⟨gq, 0, none⟩) y142.length cq := fun u u' L h => Drawn.fill_at (HN u u') (j := 0) (by rw [← hVS]; rfl) h (by rw [← hA0]; simp)
       have E63 : ∀ (u u' : Value) (L : List Bool), L[1]? = some true → (Drawn.fill (VS u u') L A0).tmps[63]?.getD undef = vc := fun u u' L h => Drawn.fill_at (HN u u') (j := 1) (by rw [← hVS]; rfl) h (by rw [← hA0]; simp)
       have E64 : ∀ (u u' : Value) (L : List Bool), L[2]? = some true → (Drawn.fill (VS u u') L A0).tmps[64]?.getD undef = .slice (some ⟨gq, 0, none⟩) y142.length cq := fun u u' L h => Drawn.fill_at (HN u u') (j := 2) (by rw [← hVS]; rfl) h (by rw [← hA0]; simp)
       have E65 : ∀ (u u' : Value) (L : List Bool), L[3]? = some true → (Drawn.fill (VS u u') L A0).tmps[65]?.getD undef = .pointer (some ⟨gq, 0, none⟩) := fun u u' L h => Drawn.fill_at (HN u u') (j := 3) (by rw [← hVS]; rfl) h (by rw [← hA0]; simp)
       have E66 : ∀ (u u' : Value) (L : List Bool), L[4]? = some true → (Drawn.fill (VS u u') L A0).tmps[66]?.getD undef = .agg #[.int .i64 p9.f0, .int .i64 p9.f1] := fun u u' L h => Drawn.fill_at (HN u u') (j := 4) (by rw [← hVS]; rfl) h (by rw [← hA0]; simp)
       have E67 : ∀ (u u' : Value) (L : List Bool), L[5]? = some true → (Drawn.fill (VS u u') L A0).tmps[67]?.getD undef = .slice (some ⟨WW.heap.size, 0, none⟩) 1 1 := fun u u' L h => Drawn.fill_at (HN u u') (j := 5) (by rw [← hVS]; rfl) h (by rw [← hA0]; simp)
       have E68 : ∀ (u u' : Value) (L : List Bool), L[6]? = some true → (Drawn.fill (VS u u') L A0).tmps[68]?.getD undef = u := fun u u' L h => Drawn.fill_at (HN u u') (j := 6) (by rw [← hVS]; rfl) h (by rw [← hA0]; simp)
       obtain ⟨V, hV⟩ : ∃ V : List Bool → List (Option Tmp × Value) → World → Prop, (fun L vs w' => ∃ u u', vs = VS u u' ∧ (L[7]? = some true → u' = u) ∧ (L[6]? = some true → Kd.Q k32 32 w' w.heap.size (fun _ => True) u (y9 ++ [p9]) ∧ Below w.heap.size WW w' ∧ WW.grownBy w' vc.ownBlock) ∧ (L[6]? = some false → L[5]? = some true → w' = WW.drew.alloc (.cells #[.int .i64 p9.f0, .int .i64 p9.f1] 32)) ∧ (L[5]? = some false → w' = WW.drew)) = V := ⟨_, rfl⟩
       have keep : ∀ (L : List Bool) (u u' : Value) (w' : World) (i : Nat), i < 5 → V L (VS u u') w' → V (L.set i true) (VS u u') w' := by
        intro L u u' w' i hi h
        rw [← hV] at h ⊢
        obtain ⟨u1, u2, h1, h2⟩ := h
        refine ⟨u1, u2, h1, ?_⟩
        rw [List.getElem?_set_ne (by omega), List.getElem?_set_ne (by omega), List.getElem?_set_ne (by omega)]
        exact h2
       refine Drawn.drawn_any (by kernel_rfl) (Drawn.early_spec (by kernel_rfl)) (show List.Nodup [(62 : Tmp), (63 : Tmp), (64 : Tmp), (65 : Tmp), (66 : Tmp), (67 : Tmp), (68 : Tmp), (2 : Tmp)] by decide) V (fun L vs w' h => by rw [← hV] at h; obtain ⟨u, u', rfl, _⟩ := h; rw [← hVS]; rfl) (VS undef undef) qq79 ?_ ?_
       ·intro i o vs L w' ho hl hli hpre hcl hVL K hK
        have hVL' := hVL
        rw [← hV] at hVL'
        obtain ⟨u, u', rfl, hu7, hu6, hu56, hu5⟩ := hVL'
        have hii : i = 0 ∨ i = 1 ∨ i = 2 ∨ i = 3 ∨ i = 4 ∨ i = 5 ∨ i = 6 ∨ i = 7 := by have hq := (Array.getElem?_eq_some_iff.1 ho).1; simp at hq; omega
        have dn : ∀ j, j < 8 → L[j]? ≠ some true → L[j]? = some false := fun j hj h => by rw [List.getElem?_eq_getElem (by rw [hl]; exact hj)] at h ⊢; cases hc : L[j]'(by rw [hl]; exact hj) <;> simp_all
        rcases hii with rfl | rfl | rfl | rfl | rfl | rfl | rfl | rfl
        ·obtain rfl := Option.some.inj ho
         have e7 := E7 u u' L
         refine Drawn.st_val HF rfl (by simp) rfl (v := .slice (some ⟨gq, 0, none⟩) y142.length cq) (w' := w') ?_ (hK _ w' qq90)
         generalize Drawn.fill (VS u u') L A0 = A at e7 ⊢
         simp [execOp, go_sem, e7]
        ·obtain rfl := Option.some.inj ho
         have e62 := E62 u u' L (hpre ⟨0, .data⟩ (by simp) rfl)
         refine Drawn.st_val HF rfl (by simp) rfl (v := vc) (w' := w') ?_ (hK _ w' qq91)
         generalize Drawn.fill (VS u u') L A0 = A at e62 ⊢
         have s62 := (Drawn.eval_tmp A 62).trans e62
         change (execOp A.eval { dst := some 63, op := Op.slice 23 (Operand.tmp 62) (some (Operand.const (Value.int IntKind.i64 1))) none none, type := 23, pos := "l92_draw.go:128", after := #[{ on := 0, ground := Ground.data }], guard := none }).run Try.prog w' = _
         unfold execOp
         simp only [Option.map_some, Option.map_none, s62, show A.eval (.const (.int .i64 1)) = .int .i64 1 from rfl, Sem.run_bind, Sem.run_pure]
         rw [show (Instr.sliceAt 23 (.slice (some ⟨gq, 0, none⟩) y142.length cq) (some (.int .i64 1)) none none).run Try.prog w' = .ok vc w' from hcut9 w']
         rfl
        ·obtain rfl := Option.some.inj ho
         have e7 := E7 u u' L
         refine Drawn.st_val HF rfl (by simp) rfl (v := .slice (some ⟨gq, 0, none⟩) y142.length cq) (w' := w') ?_ (hK _ w' qq92)
         generalize Drawn.fill (VS u u') L A0 = A at e7 ⊢
         simp [execOp, go_sem, e7]
        ·obtain rfl := Option.some.inj ho
         have e64 := E64 u u' L (hpre ⟨2, .data⟩ (by simp) rfl)
         refine Drawn.st_val HF rfl (by simp) rfl (v := .pointer (some ⟨gq, 0, none⟩)) (w' := w') ?_ (hK _ w' qq93)
         have hpos : 0 < y142.length := by omega
         generalize Drawn.fill (VS u u') L A0 = A at e64 ⊢
         simp [execOp, go_sem, e64, hpos, Addr.add]
        ·obtain rfl := Option.some.inj ho
         have e65 := E65 u u' L (hpre ⟨3, .data⟩ (by simp) rfl)
         have n5 := dn 5 (by decide) (fun h5 => by have h4 := hcl 5 _ rfl h5 ⟨4, .data⟩ (by simp) rfl; rw [hli] at h4; cases h4)
         obtain rfl := hu5 n5
         have c1 : WW.drew.cell? ⟨gq, 0, none⟩ = _ := hx9'
         have c2 : WW.drew.cell? ⟨gq, 1, none⟩ = _ := hy9'
         refine Drawn.st_val HF rfl (by simp) rfl (v := .agg #[.int .i64 p9.f0, .int .i64 p9.f1]) (w' := WW.drew) ?_ (hK _ WW.drew qq88)
         generalize Drawn.fill (VS u u') L A0 = A at e65 ⊢
         simp [execOp, go_sem, e65, c1, c2]
        ·obtain rfl := Option.some.inj ho
         have e66 := E66 u u' L (hpre ⟨4, .data⟩ (by simp) rfl)
         have n6 := dn 6 (by decide) (fun h6 => by have h5 := hcl 6 _ rfl h6 ⟨5, .data⟩ (by simp) rfl; rw [hli] at h5; cases h5)
         obtain rfl := hu5 hli
         refine Drawn.st_val HF rfl (by simp) rfl (v := .slice (some ⟨WW.heap.size, 0, none⟩) 1 1) (w' := WW.drew.alloc (.cells #[.int .i64 p9.f0, .int .i64 p9.f1] 32)) ?_ (hK _ _ ?_)
         ·generalize Drawn.fill (VS u u') L A0 = A at e66 ⊢
          simp [execOp, go_sem, e66]
         ·rw [← hV]
          refine ⟨u, u', by rw [← hVS]; rfl, fun h => hu7 qq80, fun h => ?_, fun _ _ => rfl, fun h => ?_⟩
          ·rw [List.getElem?_set_ne (by decide), n6] at h; cases h
          ·rw [List.getElem?_set_self (by rw [hl]; decide)] at h; cases h
        ·obtain rfl := Option.some.inj ho
         have e63 := E63 u u' L (hpre ⟨1, .data⟩ (by simp) rfl)
         have h5t := hpre ⟨5, .data⟩ (by simp) rfl
         have e67 := E67 u u' L h5t
         obtain rfl := hu56 hli h5t
         obtain ⟨v1, w1, hr9, q1, q2, q3, _⟩ := Kd.Q_run (P := Try.prog) (W := WW.drew) k32 (w0 := WW) w.heap.size 23 23 32 (.agg #[(.int .i64 0), (.int .i64 0)]) 16 Try.underlying23 info32 rfl (by decide) (by omega) vc y9 p9 _ (fun _ => True) (fun _ => False) (k32_mkM _ _ _ p9) (fun _ h => h.elim) (fun _ _ => trivial) HQ9.out (below_drew1 (Below.refl _ _)) hbs9 (by omega)
         refine Drawn.st_val HF rfl (by simp) rfl (v := v1) (w' := w1) ?_ (hK _ _ ?_)
         ·generalize Drawn.fill (VS u u') L A0 = A at e63 e67 ⊢
          have s63 := (Drawn.eval_tmp A 63).trans e63
          have s67 := (Drawn.eval_tmp A 67).trans e67
          change (execOp A.eval { dst := some 68, op := Op.call { callee := Callee.builtin Builtin.append, args := #[Operand.tmp 63, Operand.tmp 67], argTypes := #[23, 23] }, type := 23, pos := "l92_draw.go:128", after := #[{ on := 1, ground := Ground.data }, { on := 5, ground := Ground.data }], guard := none }).run Try.prog _ = _
          unfold execOp
          simp only [resolve, invoke, builtin, Sem.run_bind, Sem.run_pure, Result.andThen_ok, List.map_toArray, List.map_cons, List.map_nil, s63, s67]
          rw [show WW.drew.heap.size = WW.heap.size from rfl] at hr9
          rw [show (#[.int .i64 p9.f0, .int .i64 p9.f1] : Array Value) = [.int .i64 p9.f0, .int .i64 p9.f1].toArray from rfl, hr9]
          rfl
         ·rw [← hV]
          have n7 := dn 7 (by decide) (fun h7 => by have h6 := hcl 7 _ rfl h7 ⟨6, .data⟩ (by simp) rfl; rw [hli] at h6; cases h6)
          refine ⟨v1, u', by rw [← hVS]; rfl, fun h => ?_, fun _ => ⟨q1, q2, World.grownBy.trans (grown_of_below (below_drew1 (Below.refl WW.heap.size WW)) _) q3⟩, fun h => ?_, fun h => ?_⟩
          ·rw [List.getElem?_set_ne (by decide), n7] at h; cases h
          ·rw [List.getElem?_set_self (by rw [hl]; decide)] at h; cases h
          ·rw [List.getElem?_set_ne (by decide), h5t] at h; cases h
        ·obtain rfl := Option.some.inj ho
         have h6t := hpre ⟨6, .data⟩ (by simp) rfl
         have e68 := E68 u u' L h6t
         refine Drawn.st_val HF rfl (by simp) rfl (v := u) (w' := w') ?_ (hK _ w' ?_)
         ·generalize Drawn.fill (VS u u') L A0 = A at e68 ⊢
          simp [execOp, go_sem, e68]
         ·rw [← hV]
          refine ⟨u, u, by rw [← hVS]; rfl, fun _ => rfl, fun _ => hu6 h6t, fun h => ?_, fun h => hu5 qq80⟩
          rw [List.getElem?_set_ne (by decide), h6t] at h; cases h
       ·intro vs w' hVL
        rw [← hV] at hVL
        obtain ⟨u, u', rfl, hu7, hu6, _, _⟩ := hVL
        obtain rfl := hu7 rfl
        obtain ⟨q1, q2, q3⟩ := hu6 rfl
        rw [← hVS, ← hA0]
        simp only [List.size_toArray, List.length_cons, List.length_nil, Nat.reduceAdd, List.replicate, Drawn.fill, if_true, Act.put, List.setIfInBounds_toArray, List.set_cons_succ, List.set_cons_zero]
        have HIf := Aside0.mk (IsS81.grown HI0.out q3 (IsS81.own_neQ HI0.out HQ9.out (by decide)))
        have HBf := Aside0.mk (below_weaken HB.out HL.out q2)
        have HKf := Aside0.mk (KeepBut.trans HK.out (KeepBut.of_grown q3 g) (Kd.Q_base2 HQ9.out))
        have HQf := Aside0.mk q1
        clear q1 q2 q3 hu6 HN keep E7 E62 E63 E64 E65 E66 E67 E68 hVS hV hA0
        go_wp2
        go_ret
        exact ⟨_, rfl, by rw [← HR1.out, hy9_, hp9]; exact HQf.out, HIf.out, HBf.out, HKf.out⟩
      ·rw [if_neg c20] at H
       have c20b0 : (t145 == 0) = false := beq_eq_false_iff_ne.mpr c20
       have c20b1 : (t145 != 0) = true := bne_iff_ne.mpr c20
       simp only [Option.some.injEq, Prod.mk.injEq] at H
       obtain ⟨rfl, rfl⟩ := H
       go_wp2_with (first | ((with_reducible refine gate_dst (N := 55) rfl ?_); refine Kd.R_lit k32 _ 32 ?hg (N := 55) ?hd (xs := ([(⟨(wrap64 (t122 - 2)), (wrap64 (t124 - 2))⟩ : S32), (⟨wrap64 ((wrap64 (t122 - 2)) + 1), (wrap64 (t124 - 2))⟩ : S32)] : List (S32))) (inner := [.int .i64 (wrap64 (t122 - 2)), .int .i64 (wrap64 (t124 - 2)), .int .i64 (wrap64 ((wrap64 (t122 - 2)) + 1)), .int .i64 (wrap64 (t124 - 2))]) (ok := fun _ => True) (okp := fun _ => True) ?hr ?hp (fun _ hk => hk) trivial (Below.refl _ _) (Nat.le_refl _) (by simp) ?_; (case hd => rfl); (case hg => rfl); (case hr => exact qq22); (case hp => exact qq48); intro v136 w27 ho28 hb hg_ hnew_; clear hg_ hnew_; (first | rw [← Ny135.out] at ho28 | (simp only [Int.reduceToNat] at ho28; rw [← Ny135.out] at ho28)); have n0_ := Aside0.mk (Kd.R_elder' (qq2 HO_7.out) (Kd.R_base ho28) hb); have n1_ := Aside0.mk (Kd.R_lower (Kd.R_new' ho28 (Kd.R_lt (qq2 HO_7.out))) (keep_size (w := w) (g := g) (row := none) qq4)); have n2_ := Aside0.mk (IsS81.below qq8 hb); have n3_ := Aside0.mk (KeepBut.trans qq4 (KeepBut.of_below hb g none) (.inl rfl)); have n4_ := Aside0.mk (below_step qq6 hb); clear HO_7; clear HI0; clear HK; clear HB; have HO_7 := n0_; have HO137 := n1_; have HI0 := n2_; have HK := n3_; have HB := n4_; clear n0_ n1_ n2_ n3_ n4_; clear hb ho28; obtain ⟨Ao30, co30, eo30⟩ := Kd.R_slice HO_7.out; subst eo30; have q29 : (1 : Int) ≤ ((y130.length : Int) : Int) := of_decide_eq_true qq14; obtain ⟨i029, hi029, _, hsz29, _⟩ := info_parts info32; have hroom29 : y130.length ≤ co30 := (Kd.R_reads' HO_7.out).2.1; have hC29 : Kd.C k32 _ Ao30 y130.length y130 := (Kd.R_reads' HO_7.out).2.2; have hcut29 := cut_from (P := Try.prog) 23 32 .i64 Try.underlying23 hi029 2 hsz29 Ao30 y130.length co30 1 (by omega) q29; have hr29 := Kd.C_drop (m := (1 : Int).toNat) (c := co30) hC29 (by omega) hroom29; obtain ⟨A29, hA29⟩ : ∃ Az_, Az_ = (if co30 = (1 : Int).toNat then Ao30 else (Ao30 : Option Addr).map (·.add ((1 : Int).toNat * 2))) := ⟨_, rfl⟩; obtain ⟨c29, hc29⟩ : ∃ cz_, cz_ = co30 - (1 : Int).toNat := ⟨_, rfl⟩; have hy29 : y138.length = y130.length - (1 : Int).toNat := (qq73 Ny138.out); rw [show (y130).drop (1 : Int).toNat = y138 from Ny138.out.symm] at hr29; replace hr29 : Kd.C k32 _ A29 y138.length y138 := (by rw [hA29]; exact hr29); rw [← hy29, ← hA29, ← hc29] at hcut29; have HR141 := Aside0.mk hr29; have HC141 := Aside0.mk (show y138.length ≤ c29 from by rw [hy29, hc29]; exact Nat.sub_le_sub_right hroom29 _); clear hr29 hC29 hroom29 hi029 hsz29 hc29; have KY29 := Aside0.mk hy29; have KA29 := Aside0.mk hA29; clear hy29 hA29; have KL29 := Aside0.mk (show 1 ≤ y130.length from by omega); replace q29 := eq_true q29) | ((with_reducible refine gate_builtin (b := .append) (xs := #[.tmp 55, .tmp 57]) rfl ?_); at_builtin; refine Kd.R_append_rows k32 w.heap.size rfl (.tmp 55) (.tmp 57) 23 32 (.agg #[(.int .i64 0), (.int .i64 0)]) 16 rfl Try.underlying23 info32 rfl (by decide) (by omega) v136 y135 y138 _ _ _ (fun k_ => some k_ ≠ (.slice Ao30 y130.length co30 : Value).ownBlock) (fun _ => False) rfl rfl ?aO ?aR (fun _ _ h => h) (fun _ h => h.elim) ?aF (Below.refl _ _) ?aS ?aL ?_; (case aR => exact qq61); (case aF => exact qq47 HO_7.out); (case aO => exact (qq18 HO137.out)); (case aS => exact qq72); (case aL => have := LMc18.out; omega); intro v143 w31 ho hb hg hat; rw [← Ny142.out] at ho; have n0_ := Aside0.mk (Kd.R_after (ok := (fun _ => True)) (qq2 HO_7.out) hg hat); have n1_ := Aside0.mk (IsS81.grown qq8 hg (IsS81.own_ne HI0.out HO137.out (by decide))); have n2_ := Aside0.mk (below_weaken qq6 HL.out hb); have n3_ := Aside0.mk (KeepBut.trans qq4 (KeepBut.of_grown hg g) (Kd.R_base2 HO137.out)); have n4_ := Aside0.mk ((show Kd.C k32 w31 A29 y138.length y138 from by rw [Ny138.out, KA29.out]; exact Kd.C_drop (m := 1) (c := co30) ((Kd.R_reads' (Kd.R_after (ok := (fun _ => True)) (qq2 HO_7.out) hg hat)).2.2) KL29.out ((Kd.R_reads' (Kd.R_after (ok := (fun _ => True)) (qq2 HO_7.out) hg hat)).2.1))); have n5_ := Aside0.mk (ho); clear HO_7; clear HI0; clear HB; clear HK; clear HR141; clear HO137; have HO_7 := n0_; have HI0 := n1_; have HB := n2_; have HK := n3_; have HR141 := n4_; have HO144 := n5_; clear n0_ n1_ n2_ n3_ n4_ n5_; clear ho hb hg hat) | ((with_reducible refine gate_callee (f := 48) rfl ?_); refine goesL_ (some 60) rfl rfl Try.func48 (by kernel_rfl) rfl #[.pointer (some ⟨g, 0, none⟩), .int .i64 3] rfl qq3 ?_; (with_reducible refine (spec_l6Rd_pick.calls kj5 g s0_0 x1001_5 3 t145 t146 w0 _ ?side1 ?side2 A19.out).mono ?_); (case side1 => exact qq8); (case side2 => exact qq6); rintro e w32 ⟨rfl, hi, hb, hk⟩; refine ⟨_, rfl, ?_⟩; have n0_ := Aside0.mk (Kd.R_mono (Kd.R_keep (IsS81.apart (show IsS81 w0 _ g s0_0 x1001_5 from by repeat (first | (with_reducible first | exact HI0.out | apply IsS81.alloc | apply IsS81.drewN | apply IsS81.drew | apply IsS81.set_1) | exact HI0.out)) (qq2 HO_7.out) (by decide)) hk (fun _ h => h.2)) (fun _ h => h.1)); have n1_ := Aside0.mk (Kd.R_mono (Kd.R_keep (IsS81.apart (show IsS81 w0 _ g s0_0 x1001_5 from by repeat (first | (with_reducible first | exact HI0.out | apply IsS81.alloc | apply IsS81.drewN | apply IsS81.drew | apply IsS81.set_1) | exact HI0.out)) (qq2 HO144.out) (by decide)) hk (fun _ h => h.2)) (fun _ h => h.1)); have n2_ := Aside0.mk (KeepBut.trans qq4 hk (.inl rfl)); have n3_ := Aside0.mk (hb); have n4_ := Aside0.mk (hi); clear HO_7; clear HO144; clear HK; clear HB; clear HI0; have HO_7 := n0_; have HO144 := n1_; have HK := n2_; have HB := n3_; have HI0 := n4_; clear n0_ n1_ n2_ n3_ n4_; (try clear hb); (try clear hb2); (try clear hk); (try clear hi)))
       go_ret
       exact ⟨_, qq10, Kd.Q_of_R (qq68 HO144.out), qq8, qq6, qq4⟩
     ·rw [if_neg c18] at H
      exact absurd H (by simp)
    ·rw [if_neg c17] at H
     exact absurd H (by simp)
   ·replace c16 := Bool.eq_false_iff.mpr c16
    subst c16
    have H1 : ((spec_l6Rd_pick.f kj5 s0_0 x1001_5 3).bind fun bt147 => (if bt147.1 = 0 then (if 1 ≤ y130.length ∧ y130.length ≤ 100 then (some (y130.drop 1 ++ [rd_T32 y130 0], bt147.2)) else none) else (some (y130, bt147.2)))) = some (r1, r2) := by rw [if_neg (show ¬ (false = true) by decide)] at H; exact H
    clear H
    have H := H1
    clear H1
    replace H := Option.bind_eq_some_iff.mp H
    obtain ⟨⟨t147, t148⟩, A330, H⟩ := H
    replace H : (if t147 = 0 then (if 1 ≤ y130.length ∧ y130.length ≤ 100 then (some (y130.drop 1 ++ [rd_T32 y130 0], t148)) else none) else (some (y130, t148))) = some (r1, r2) := H
    have A33 := Aside0.mk A330
    clear A330
    by_cases c34 : t147 = 0
    ·rw [if_pos c34] at H
     have c34b0 : (t147 == 0) = true := beq_iff_eq.mpr c34
     have c34b1 : (t147 != 0) = false := bne_eq_false_iff_eq.mpr c34
     clear c34
     by_cases hl9 : 1 ≤ y130.length ∧ y130.length ≤ 100
     case neg => rw [if_neg hl9] at H; exact absurd H (by simp)
     rw [if_pos hl9] at H
     simp only [Option.some.injEq, Prod.mk.injEq] at H
     obtain ⟨hr1, rfl⟩ := H; have HR1 := Aside0.mk hr1; clear hr1
     go_wp2_with (first | ((with_reducible refine gate_callee (f := 48) rfl ?_); refine goesL_ (some 60) rfl rfl Try.func48 (by kernel_rfl) rfl #[.pointer (some ⟨g, 0, none⟩), .int .i64 3] rfl qq3 ?_; (with_reducible refine (spec_l6Rd_pick.calls kj5 g s0_0 x1001_5 3 t147 t148 w0 _ ?side1 ?side2 A33.out).mono ?_); (case side1 => exact qq8); (case side2 => exact qq6); rintro e w35 ⟨rfl, hi, hb, hk⟩; refine ⟨_, rfl, ?_⟩; have n0_ := Aside0.mk (Kd.R_mono (Kd.R_keep (IsS81.apart (show IsS81 w0 _ g s0_0 x1001_5 from by repeat (first | (with_reducible first | exact HI0.out | apply IsS81.alloc | apply IsS81.drewN | apply IsS81.drew | apply IsS81.set_1) | exact HI0.out)) (qq2 HO_7.out) (by decide)) hk (fun _ h => h.2)) (fun _ h => h.1)); have n1_ := Aside0.mk (KeepBut.trans qq4 hk (.inl rfl)); have n2_ := Aside0.mk (hb); have n3_ := Aside0.mk (hi); clear HO_7; clear HK; clear HB; clear HI0; have HO_7 := n0_; have HK := n1_; have HB := n2_; have HI0 := n3_; clear n0_ n1_ n2_ n3_; (try clear hb); (try clear hb2); (try clear hk); (try clear hi)))
     obtain ⟨WW, hWW, hR9⟩ : ∃ WW : World, WW = _ ∧ Kd.R k32 32 WW w.heap.size (fun _ => True) _ y130 := ⟨_, rfl, Kd.R_mono (ok' := fun _ => True) HO_7.out (fun _ _ => trivial)⟩
     subst hWW
     obtain ⟨gq, cq, eq_, _, _, _⟩ := Kd.R_form hR9 (by omega)
     (first | subst eq_ | (injection eq_ with ea_ en_ ec_; (first | subst ea_ | (injection ea_ with ea_; subst ea_)); subst ec_; clear en_))
     have hQ9 := Kd.Q_of_R hR9
     have hc9 := (Kd.R_reads' hR9).2.1
     have hd9 := Kd.Q_drop (k := 1) hQ9 (by omega)
     obtain ⟨vc, hvc⟩ : ∃ vc, Value.slice (if cq = 1 then (some ⟨gq, 0, none⟩ : Option Addr) else (some ⟨gq, 0, none⟩ : Option Addr).map (·.add (1 * 2))) (y130.length - 1) (cq - 1) = vc := ⟨_, rfl⟩
     replace hd9 : Kd.Q k32 32 WW w.heap.size (fun _ => True) vc (y130.drop 1) := by rw [← hvc]; exact hd9
     obtain ⟨i9, hi9, _, hsz9, _⟩ := info_parts info32
     have hcut9 : ∀ W : World, (Instr.slice 23 (.slice (some ⟨gq, 0, none⟩) y130.length cq) (some (.int .i64 1)) none none).run Try.prog W = .ok vc W := fun W => by rw [← hvc]; exact cut_from (P := Try.prog) 23 32 .i64 Try.underlying23 hi9 2 hsz9 (some ⟨gq, 0, none⟩) y130.length cq 1 (by decide) (by omega) W
     obtain ⟨ad9, ead9, hx9, hy9⟩ := at_T32 (Kd.R_reads' hR9).2.2 0 (by decide) (by omega)
     cases ead9
     have hx9' : WW.cell? ⟨gq, 0, none⟩ = some (.int .i64 (rd_T32 y130 0).f0) := by simpa [Addr.add] using hx9
     have hy9' : WW.cell? ⟨gq, 1, none⟩ = some (.int .i64 (rd_T32 y130 0).f1) := by simpa [Addr.add] using hy9
     have hbs9 := HK.out.1
     have HQ9 := Aside0.mk hd9
     obtain ⟨p9, hp9⟩ : ∃ p, rd_T32 y130 0 = p := ⟨_, rfl⟩
     rw [hp9] at hx9' hy9'
     obtain ⟨y9, hy9_⟩ : ∃ y_, y130.drop 1 = y_ := ⟨_, rfl⟩
     have hyl9 : y9.length ≤ 100 := by rw [← hy9_, List.length_drop]; omega
     rw [hy9_] at HQ9
     clear hR9 hQ9 hd9 hvc hx9 hy9
     refine wpIn_wide (n := 0) |>.1 ?_
     have HF := Drawn.wide_plain Try.prog
     refine Drawn.act_name fun A0 hA0 => ?_
     obtain ⟨VS, hVS⟩ : ∃ VS : Value → Value → List (Option Tmp × Value), (fun u u' => [(some 62, .slice (some ⟨gq, 0, none⟩) y130.length cq), (some 63, vc), (some 64, .slice (some ⟨gq, 0, none⟩) y130.length cq), (some 65, .pointer (some ⟨gq, 0, none⟩)), (some 66, .agg #[.int .i64 p9.f0, .int .i64 p9.f1]), (some 67, .slice (some ⟨WW.heap.size, 0, none⟩) 1 1), (some 68, u), (some 2, u')]) = VS := ⟨_, rfl⟩
     have HN : ∀ u u', ((VS u u').filterMap (·.1)).Nodup := fun u u' => by rw [← hVS]; exact (show List.Nodup [(62 : Tmp), (63 : Tmp), (64 : Tmp), (65 : Tmp), (66 : Tmp), (67 : Tmp), (68 : Tmp), (2 : Tmp)] by decide)
     have E7 : ∀ (u u' : Value) (L : List Bool), (Drawn.fill (VS u u') L A0).tmps[7]?.getD undef = .slice (some ⟨gq, 0, none⟩) y130.length cq := fun u u' L => Drawn.fill_old _ _ _ qq77 (by rw [← hA0]; rfl)
     have E62 : ∀ (u u' : Value) (L : List Bool), L[0]? = some true → (Drawn.fill (VS u u') L A0).tmps[62]?.getD undef = .slice (some ⟨gq, 0, none⟩) y130.length cq := fun u u' L h => Drawn.fill_at (HN u u') (j := 0) (by rw [← hVS]; rfl) h (by rw [← hA0]; simp)
     have E63 : ∀ (u u' : Value) (L : List Bool), L[1]? = some true → (Drawn.fill (VS u u') L A0).tmps[63]?.getD undef = vc := fun u u' L h => Drawn.fill_at (HN u u') (j := 1) (by rw [← hVS]; rfl) h (by rw [← hA0]; simp)
     have E64 : ∀ (u u' : Value) (L : List Bool), L[2]? = some true → (Drawn.fill (VS u u') L A0).tmps[64]?.getD undef = .slice (some ⟨gq, 0, none⟩) y130.length cq := fun u u' L h => Drawn.fill_at (HN u u') (j := 2) (by rw [← hVS]; rfl) h (by rw [← hA0]; simp)
     have E65 : ∀ (u u' : Value) (L : List Bool), L[3]? = some true → (Drawn.fill (VS u u') L A0).tmps[65]?.getD undef = .pointer (some ⟨gq, 0, none⟩) := fun u u' L h => Drawn.fill_at (HN u u') (j := 3) (by rw [← hVS]; rfl) h (by rw [← hA0]; simp)
     have E66 : ∀ (u u' : Value) (L : List Bool), L[4]? = some true → (Drawn.fill (VS u u') L A0).tmps[66]?.getD undef = .agg #[.int .i64 p9.f0, .int .i64 p9.f1] := fun u u' L h => Drawn.fill_at (HN u u') (j := 4) (by rw [← hVS]; rfl) h (by rw [← hA0]; simp)
     have E67 : ∀ (u u' : Value) (L : List Bool), L[5]? = some true → (Drawn.fill (VS u u') L A0).tmps[67]?.getD undef = .slice (some ⟨WW.heap.size, 0, none⟩) 1 1 := fun u u' L h => Drawn.fill_at (HN u u') (j := 5) (by rw [← hVS]; rfl) h (by rw [← hA0]; simp)
     have E68 : ∀ (u u' : Value) (L : List Bool), L[6]? = some true → (Drawn.fill (VS u u') L A0).tmps[68]?.getD undef = u := fun u u' L h => Drawn.fill_at (HN u u') (j := 6) (by rw [← hVS]; rfl) h (by rw [← hA0]; simp)
     obtain ⟨V, hV⟩ : ∃ V : List Bool → List (Option Tmp × Value) → World → Prop, (fun L vs w' => ∃ u u', vs = VS u u' ∧ (L[7]? = some true → u' = u) ∧ (L[6]? = some true → Kd.Q k32 32 w' w.heap.size (fun _ => True) u (y9 ++ [p9]) ∧ Below w.heap.size WW w' ∧ WW.grownBy w' vc.ownBlock) ∧ (L[6]? = some false → L[5]? = some true → w' = WW.drew.alloc (.cells #[.int .i64 p9.f0, .int .i64 p9.f1] 32)) ∧ (L[5]? = some false → w' = WW.drew)) = V := ⟨_, rfl⟩
     have keep : ∀ (L : List Bool) (u u' : Value) (w' : World) (i : Nat), i < 5 → V L (VS u u') w' → V (L.set i true) (VS u u') w' := by
      intro L u u' w' i hi h
      rw [← hV] at h ⊢
      obtain ⟨u1, u2, h1, h2⟩ := h
      refine ⟨u1, u2, h1, ?_⟩
      rw [List.getElem?_set_ne (by omega), List.getElem?_set_ne (by omega), List.getElem?_set_ne (by omega)]
      exact h2
     refine Drawn.drawn_any (by kernel_rfl) (Drawn.early_spec (by kernel_rfl)) (show List.Nodup [(62 : Tmp), (63 : Tmp), (64 : Tmp), (65 : Tmp), (66 : Tmp), (67 : Tmp), (68 : Tmp), (2 : Tmp)] by decide) V (fun L vs w' h => by rw [← hV] at h; obtain ⟨u, u', rfl, _⟩ := h; rw [← hVS]; rfl) (VS undef undef) qq79 ?_ ?_
     ·intro i o vs L w' ho hl hli hpre hcl hVL K hK
      have hVL' := hVL
      rw [← hV] at hVL'
      obtain ⟨u, u', rfl, hu7, hu6, hu56, hu5⟩ := hVL'
      have hii : i = 0 ∨ i = 1 ∨ i = 2 ∨ i = 3 ∨ i = 4 ∨ i = 5 ∨ i = 6 ∨ i = 7 := by have hq := (Array.getElem?_eq_some_iff.1 ho).1; simp at hq; omega
      have dn : ∀ j, j < 8 → L[j]? ≠ some true → L[j]? = some false := fun j hj h => by rw [List.getElem?_eq_getElem (by rw [hl]; exact hj)] at h ⊢; cases hc : L[j]'(by rw [hl]; exact hj) <;> simp_all
      rcases hii with rfl | rfl | rfl | rfl | rfl | rfl | rfl | rfl
      ·obtain rfl := Option.some.inj ho
       have e7 := E7 u u' L
       refine Drawn.st_val HF rfl (by simp) rfl (v := .slice (some ⟨gq, 0, none⟩) y130.length cq) (w' := w') ?_ (hK _ w' qq90)
       generalize Drawn.fill (VS u u') L A0 = A at e7 ⊢
       simp [execOp, go_sem, e7]
      ·obtain rfl := Option.some.inj ho
       have e62 := E62 u u' L (hpre ⟨0, .data⟩ (by simp) rfl)
       refine Drawn.st_val HF rfl (by simp) rfl (v := vc) (w' := w') ?_ (hK _ w' qq91)
       generalize Drawn.fill (VS u u') L A0 = A at e62 ⊢
       have s62 := (Drawn.eval_tmp A 62).trans e62
       change (execOp A.eval { dst := some 63, op := Op.slice 23 (Operand.tmp 62) (some (Operand.const (Value.int IntKind.i64 1))) none none, type := 23, pos := "l92_draw.go:128", after := #[{ on := 0, ground := Ground.data }], guard := none }).run Try.prog w' = _
       unfold execOp
       simp only [Option.map_some, Option.map_none, s62, show A.eval (.const (.int .i64 1)) = .int .i64 1 from rfl, Sem.run_bind, Sem.run_pure]
       rw [show (Instr.sliceAt 23 (.slice (some ⟨gq, 0, none⟩) y130.length cq) (some (.int .i64 1)) none none).run Try.prog w' = .ok vc w' from hcut9 w']
       rfl
      ·obtain rfl := Option.some.inj ho
       have e7 := E7 u u' L
       refine Drawn.st_val HF rfl (by simp) rfl (v := .slice (some ⟨gq, 0, none⟩) y130.length cq) (w' := w') ?_ (hK _ w' qq92)
       generalize Drawn.fill (VS u u') L A0 = A at e7 ⊢
       simp [execOp, go_sem, e7]
      ·obtain rfl := Option.some.inj ho
       have e64 := E64 u u' L (hpre ⟨2, .data⟩ (by simp) rfl)
       refine Drawn.st_val HF rfl (by simp) rfl (v := .pointer (some ⟨gq, 0, none⟩)) (w' := w') ?_ (hK _ w' qq93)
       have hpos : 0 < y130.length := by omega
       generalize Drawn.fill (VS u u') L A0 = A at e64 ⊢
       simp [execOp, go_sem, e64, hpos, Addr.add]
      ·obtain rfl := Option.some.inj ho
       have e65 := E65 u u' L (hpre ⟨3, .data⟩ (by simp) rfl)
       have n5 := dn 5 (by decide) (fun h5 => by have h4 := hcl 5 _ rfl h5 ⟨4, .data⟩ (by simp) rfl; rw [hli] at h4; cases h4)
       obtain rfl := hu5 n5
       have c1 : WW.drew.cell? ⟨gq, 0, none⟩ = _ := hx9'
       have c2 : WW.drew.cell? ⟨gq, 1, none⟩ = _ := hy9'
       refine Drawn.st_val HF rfl (by simp) rfl (v := .agg #[.int .i64 p9.f0, .int .i64 p9.f1]) (w' := WW.drew) ?_ (hK _ WW.drew qq88)
       generalize Drawn.fill (VS u u') L A0 = A at e65 ⊢
       simp [execOp, go_sem, e65, c1, c2]
      ·obtain rfl := Option.some.inj ho
       have e66 := E66 u u' L (hpre ⟨4, .data⟩ (by simp) rfl)
       have n6 := dn 6 (by decide) (fun h6 => by have h5 := hcl 6 _ rfl h6 ⟨5, .data⟩ (by simp) rfl; rw [hli] at h5; cases h5)
       obtain rfl := hu5 hli
       refine Drawn.st_val HF rfl (by simp) rfl (v := .slice (some ⟨WW.heap.size, 0, none⟩) 1 1) (w' := WW.drew.alloc (.cells #[.int .i64 p9.f0, .int .i64 p9.f1] 32)) ?_ (hK _ _ ?_)
       ·generalize Drawn.fill (VS u u') L A0 = A at e66 ⊢
        simp [execOp, go_sem, e66]
       ·rw [← hV]
        refine ⟨u, u', by rw [← hVS]; rfl, fun h => hu7 qq80, fun h => ?_, fun _ _ => rfl, fun h => ?_⟩
        ·rw [List.getElem?_set_ne (by decide), n6] at h; cases h
        ·rw [List.getElem?_set_self (by rw [hl]; decide)] at h; cases h
      ·obtain rfl := Option.some.inj ho
       have e63 := E63 u u' L (hpre ⟨1, .data⟩ (by simp) rfl)
       have h5t := hpre ⟨5, .data⟩ (by simp) rfl
       have e67 := E67 u u' L h5t
       obtain rfl := hu56 hli h5t
       obtain ⟨v1, w1, hr9, q1, q2, q3, _⟩ := Kd.Q_run (P := Try.prog) (W := WW.drew) k32 (w0 := WW) w.heap.size 23 23 32 (.agg #[(.int .i64 0), (.int .i64 0)]) 16 Try.underlying23 info32 rfl (by decide) (by omega) vc y9 p9 _ (fun _ => True) (fun _ => False) (k32_mkM _ _ _ p9) (fun _ h => h.elim) (fun _ _ => trivial) HQ9.out (below_drew1 (Below.refl _ _)) hbs9 (by omega)
       refine Drawn.st_val HF rfl (by simp) rfl (v := v1) (w' := w1) ?_ (hK _ _ ?_)
       ·generalize Drawn.fill (VS u u') L A0 = A at e63 e67 ⊢
        have s63 := (Drawn.eval_tmp A 63).trans e63
        have s67 := (Drawn.eval_tmp A 67).trans e67
        change (execOp A.eval { dst := some 68, op := Op.call { callee := Callee.builtin Builtin.append, args := #[Operand.tmp 63, Operand.tmp 67], argTypes := #[23, 23] }, type := 23, pos := "l92_draw.go:128", after := #[{ on := 1, ground := Ground.data }, { on := 5, ground := Ground.data }], guard := none }).run Try.prog _ = _
        unfold execOp
        simp only [resolve, invoke, builtin, Sem.run_bind, Sem.run_pure, Result.andThen_ok, List.map_toArray, List.map_cons, List.map_nil, s63, s67]
        rw [show WW.drew.heap.size = WW.heap.size from rfl] at hr9
        rw [show (#[.int .i64 p9.f0, .int .i64 p9.f1] : Array Value) = [.int .i64 p9.f0, .int .i64 p9.f1].toArray from rfl, hr9]
        rfl
       ·rw [← hV]
        have n7 := dn 7 (by decide) (fun h7 => by have h6 := hcl 7 _ rfl h7 ⟨6, .data⟩ (by simp) rfl; rw [hli] at h6; cases h6)
        refine ⟨v1, u', by rw [← hVS]; rfl, fun h => ?_, fun _ => ⟨q1, q2, World.grownBy.trans (grown_of_below (below_drew1 (Below.refl WW.heap.size WW)) _) q3⟩, fun h => ?_, fun h => ?_⟩
        ·rw [List.getElem?_set_ne (by decide), n7] at h; cases h
        ·rw [List.getElem?_set_self (by rw [hl]; decide)] at h; cases h
        ·rw [List.getElem?_set_ne (by decide), h5t] at h; cases h
      ·obtain rfl := Option.some.inj ho
       have h6t := hpre ⟨6, .data⟩ (by simp) rfl
       have e68 := E68 u u' L h6t
       refine Drawn.st_val HF rfl (by simp) rfl (v := u) (w' := w') ?_ (hK _ w' ?_)
       ·generalize Drawn.fill (VS u u') L A0 = A at e68 ⊢
        simp [execOp, go_sem, e68]
       ·rw [← hV]
        refine ⟨u, u, by rw [← hVS]; rfl, fun _ => rfl, fun _ => hu6 h6t, fun h => ?_, fun h => hu5 qq80⟩
        rw [List.getElem?_set_ne (by decide), h6t] at h; cases h
     ·intro vs w' hVL
      rw [← hV] at hVL
      obtain ⟨u, u', rfl, hu7, hu6, _, _⟩ := hVL
      obtain rfl := hu7 rfl
      obtain ⟨q1, q2, q3⟩ := hu6 rfl
      rw [← hVS, ← hA0]
      simp only [List.size_toArray, List.length_cons, List.length_nil, Nat.reduceAdd, List.replicate, Drawn.fill, if_true, Act.put, List.setIfInBounds_toArray, List.set_cons_succ, List.set_cons_zero]
      have HIf := Aside0.mk (IsS81.grown HI0.out q3 (IsS81.own_neQ HI0.out HQ9.out (by decide)))
      have HBf := Aside0.mk (below_weaken HB.out HL.out q2)
      have HKf := Aside0.mk (KeepBut.trans HK.out (KeepBut.of_grown q3 g) (Kd.Q_base2 HQ9.out))
      have HQf := Aside0.mk q1
      clear q1 q2 q3 hu6 HN keep E7 E62 E63 E64 E65 E66 E67 E68 hVS hV hA0
      go_wp2
      go_ret
      exact ⟨_, rfl, by rw [← HR1.out, hy9_, hp9]; exact HQf.out, HIf.out, HBf.out, HKf.out⟩
    ·rw [if_neg c34] at H
     have c34b0 : (t147 == 0) = false := beq_eq_false_iff_ne.mpr c34
     have c34b1 : (t147 != 0) = true := bne_iff_ne.mpr c34
     simp only [Option.some.injEq, Prod.mk.injEq] at H
     obtain ⟨rfl, rfl⟩ := H
     go_wp2_with (first | ((with_reducible refine gate_callee (f := 48) rfl ?_); refine goesL_ (some 60) rfl rfl Try.func48 (by kernel_rfl) rfl #[.pointer (some ⟨g, 0, none⟩), .int .i64 3] rfl qq3 ?_; (with_reducible refine (spec_l6Rd_pick.calls kj5 g s0_0 x1001_5 3 t147 t148 w0 _ ?side1 ?side2 A33.out).mono ?_); (case side1 => exact qq8); (case side2 => exact qq6); rintro e w36 ⟨rfl, hi, hb, hk⟩; refine ⟨_, rfl, ?_⟩; have n0_ := Aside0.mk (Kd.R_mono (Kd.R_keep (IsS81.apart (show IsS81 w0 _ g s0_0 x1001_5 from by repeat (first | (with_reducible first | exact HI0.out | apply IsS81.alloc | apply IsS81.drewN | apply IsS81.drew | apply IsS81.set_1) | exact HI0.out)) (qq2 HO_7.out) (by decide)) hk (fun _ h => h.2)) (fun _ h => h.1)); have n1_ := Aside0.mk (KeepBut.trans qq4 hk (.inl rfl)); have n2_ := Aside0.mk (hb); have n3_ := Aside0.mk (hi); clear HO_7; clear HK; clear HB; clear HI0; have HO_7 := n0_; have HK := n1_; have HB := n2_; have HI0 := n3_; clear n0_ n1_ n2_ n3_; (try clear hb); (try clear hb2); (try clear hk); (try clear hi)))
     go_ret
     exact ⟨_, qq10, Kd.Q_of_R (qq2 HO_7.out), qq8, qq6, qq4⟩

end Go.Proofs.Ytgdhgncdpmalcaa.Q
namespace Go.Proofs.Ytgdhgncdpmalcaa.Q
open Go.RowKit Go.Proofs.YtgdhgncdpmalcaaW.PrintWords Go.Proofs.YtgdhgncdpmalcaaW.PrintLast Go.Proofs.YtgdhgncdpmalcaaW.PrintMore
attribute [local go_sem] max2_int min2_int max_two min_two max_three min_three max_four min_four
set_option linter.unusedVariables false
set_option linter.unusedSimpArgs false

/-! ### spec_l92Star: function 72 -/
def spec_l92Star.l0 : Nat → List (S32) → List (S32) → Int → List Int → Int → Option ((List (S32)) × Int)
 | 0, _, _, _, _, _ => none
 | k + 1, x3, x4, x5, x1000, x1001 => if x5 < (x3.length : Int) then (if (Int.tmod x5 4) = 0 then ((spec_l6Rd_pick.f k x1000 x1001 3).bind fun bt128 => (if 0 ≤ x5 then (if x4.length < 8796093022208 then (spec_l92Star.l0 k x3 (x4 ++ [(⟨wrap64 ((wrap64 (1 + bt128.1)) * ((rd_T32 x3 x5).f0)), wrap64 ((wrap64 (1 + bt128.1)) * ((rd_T32 x3 x5).f1))⟩ : S32)]) (wrap64 (x5 + 1)) x1000 bt128.2) else (none)) else (none))) else ((spec_l6Rd_pick.f k x1000 x1001 3).bind fun bt135 => (if bt135.1 = 0 then ((spec_l6Rd_pick.f k x1000 bt135.2 3).bind fun bt137 => (if 0 ≤ x5 then (if x4.length < 8796093022208 then (spec_l92Star.l0 k x3 (x4 ++ [(⟨wrap64 ((wrap64 (1 + bt137.1)) * ((rd_T32 x3 x5).f0)), wrap64 ((wrap64 (1 + bt137.1)) * ((rd_T32 x3 x5).f1))⟩ : S32)]) (wrap64 (x5 + 1)) x1000 bt137.2) else (none)) else (none))) else (spec_l92Star.l0 k x3 x4 (wrap64 (x5 + 1)) x1000 bt135.2)))) else (some (x4, x1001))
def spec_l92Star.f (k : Nat) (s0_0 : List Int) (s0_1 : Int) : Option ((List (S32)) × Int) := spec_l92Star.l0 k (([(⟨2, 0⟩ : S32), (⟨2, 1⟩ : S32), (⟨1, 2⟩ : S32), (⟨0, 2⟩ : S32), (⟨(-1), 2⟩ : S32), (⟨(-2), 1⟩ : S32), (⟨(-2), 0⟩ : S32), (⟨(-2), (-1)⟩ : S32), (⟨(-1), (-2)⟩ : S32), (⟨0, (-2)⟩ : S32), (⟨1, (-2)⟩ : S32), (⟨2, (-1)⟩ : S32)] : List (S32))) (([] : List (S32))) 0 s0_0 s0_1
def spec_l92Star.T8 : Bool × List (List Nat × List Nat) := (true, [([], []), ([], []), ([], []), ([], []), ([2, 3], [2, 3]), ([4], [4]), ([5], [5]), ([1, 6], [1, 6]), ([], []), ([], []), ([], []), ([9, 10], [9, 10]), ([11], [11]), ([12], [12]), ([8, 13], [8, 13]), ([7, 14], [7, 14]), ([15], [15]), ([0, 16], [0, 16]), ([17, 17, 0, 1, 2, 3, 4, 5, 6, 7, 8, 9, 10, 11, 12, 13, 14, 15, 16, 17], [0, 17])])
def spec_l92Star.B8 : List Nat := [0, 0, 0, 0, 12, 28, 60, 126, 0, 0, 0, 1536, 3584, 7680, 16128, 32766, 65534, 131071, 262143]
theorem spec_l92Star.tab8 : rtab .any (opsOf Try.f72 8) = spec_l92Star.T8 := by kernel_rfl
theorem spec_l92Star.bits8 : waitsOk spec_l92Star.T8.2 spec_l92Star.B8 = true := by kernel_rfl
set_option maxHeartbeats 8000000 in
set_option maxRecDepth 100000 in
theorem spec_l92Star.calls (k : Nat) (g : Nat) (s0_0 : List Int) (s0_1 : Int) (r1 : List (S32)) (r2 : Int) (w0 w : World) (hI : IsS81 w0 w g s0_0 s0_1) (hB : Below w0.heap.size w0 w) (h : spec_l92Star.f k s0_0 s0_1 = some (r1, r2)) :
  Calls Try.prog 72 #[.pointer (some ⟨g, 0, none⟩)] w fun e w' => ∃ v0_ : Value, e = .returned (v0_) ∧ Kd.R k32 32 w' w.heap.size (fun _ => True) v0_ r1 ∧ IsS81 w0 w' g s0_0 r2 ∧ Below w0.heap.size w0 w' ∧ KeepBut w w' g none := by
 have hu32 := Try.underlying32
 have HI0 := Aside0.mk hI
 have HK := Aside0.mk (KeepBut.refl w g none)
 have HL := Aside0.mk hB.size
 clear hI
 have HW0 := Aside0.mk hB.size
 have HB := Aside0.mk hB
 clear hB
 have H : (spec_l92Star.l0 k (([(⟨2, 0⟩ : S32), (⟨2, 1⟩ : S32), (⟨1, 2⟩ : S32), (⟨0, 2⟩ : S32), (⟨(-1), 2⟩ : S32), (⟨(-2), 1⟩ : S32), (⟨(-2), 0⟩ : S32), (⟨(-2), (-1)⟩ : S32), (⟨(-1), (-2)⟩ : S32), (⟨0, (-2)⟩ : S32), (⟨1, (-2)⟩ : S32), (⟨2, (-1)⟩ : S32)] : List (S32))) (([] : List (S32))) 0 s0_0 s0_1) = some (r1, r2) := h
 clear h
 obtain ⟨y122, hy122⟩ : ∃ y_ : List (S32), y_ = (([(⟨2, 0⟩ : S32), (⟨2, 1⟩ : S32), (⟨1, 2⟩ : S32), (⟨0, 2⟩ : S32), (⟨(-1), 2⟩ : S32), (⟨(-2), 1⟩ : S32), (⟨(-2), 0⟩ : S32), (⟨(-2), (-1)⟩ : S32), (⟨(-1), (-2)⟩ : S32), (⟨0, (-2)⟩ : S32), (⟨1, (-2)⟩ : S32), (⟨2, (-1)⟩ : S32)] : List (S32))) := ⟨_, rfl⟩
 replace H : (spec_l92Star.l0 k y122 (([] : List (S32))) 0 s0_0 s0_1) = some (r1, r2) := by first | (rw [hy122]; with_reducible exact H) | (have H2_ := (Option.bind_some _ _).symm.trans H; rw [hy122]; with_reducible exact H2_) | (have H2_ := (Option.bind_some _ _).symm.trans H; with_reducible exact H2_) | with_reducible exact H | (rw [hy122]; exact H) | exact H
 have Ny122 := Aside0.mk hy122
 clear hy122
 obtain ⟨y125, hy125⟩ : ∃ y_ : List (S32), y_ = (([] : List (S32))) := ⟨_, rfl⟩
 replace H : (spec_l92Star.l0 k y122 y125 0 s0_0 s0_1) = some (r1, r2) := by first | (rw [hy125]; with_reducible exact H) | (have H2_ := (Option.bind_some _ _).symm.trans H; rw [hy125]; with_reducible exact H2_) | (have H2_ := (Option.bind_some _ _).symm.trans H; with_reducible exact H2_) | with_reducible exact H | (rw [hy125]; exact H) | exact H
 have Ny125 := Aside0.mk hy125
 clear hy125
 have H' := Aside0.mk H
 clear H
 go_enter Try.func72, Try.ntmps72
 go_wp2_with (first | ((with_reducible refine gate_dst (N := 19) rfl ?_); refine Kd.R_lit k32 _ 32 ?hg (N := 19) ?hd (xs := ([(⟨2, 0⟩ : S32), (⟨2, 1⟩ : S32), (⟨1, 2⟩ : S32), (⟨0, 2⟩ : S32), (⟨(-1), 2⟩ : S32), (⟨(-2), 1⟩ : S32), (⟨(-2), 0⟩ : S32), (⟨(-2), (-1)⟩ : S32), (⟨(-1), (-2)⟩ : S32), (⟨0, (-2)⟩ : S32), (⟨1, (-2)⟩ : S32), (⟨2, (-1)⟩ : S32)] : List (S32))) (inner := [.int .i64 2, .int .i64 0, .int .i64 2, .int .i64 1, .int .i64 1, .int .i64 2, .int .i64 0, .int .i64 2, .int .i64 (-1), .int .i64 2, .int .i64 (-2), .int .i64 1, .int .i64 (-2), .int .i64 0, .int .i64 (-2), .int .i64 (-1), .int .i64 (-1), .int .i64 (-2), .int .i64 0, .int .i64 (-2), .int .i64 1, .int .i64 (-2), .int .i64 2, .int .i64 (-1)]) (ok := fun _ => True) (okp := fun _ => True) ?hr ?hp (fun _ hk => hk) trivial (Below.refl _ _) (Nat.le_refl _) (by simp) ?_; (case hd => rfl); (case hg => rfl); (case hr => exact qq22); (case hp => exact (Reps.c2 (show Kd.M k32 _ _ _ (⟨2, 0⟩ : S32) [.int .i64 2, .int .i64 0] from (k32_mkM _ _ _ (⟨2, 0⟩ : S32) )) (Reps.c2 (show Kd.M k32 _ _ _ (⟨2, 1⟩ : S32) [.int .i64 2, .int .i64 1] from (k32_mkM _ _ _ (⟨2, 1⟩ : S32) )) (Reps.c2 (show Kd.M k32 _ _ _ (⟨1, 2⟩ : S32) [.int .i64 1, .int .i64 2] from (k32_mkM _ _ _ (⟨1, 2⟩ : S32) )) (Reps.c2 (show Kd.M k32 _ _ _ (⟨0, 2⟩ : S32) [.int .i64 0, .int .i64 2] from (k32_mkM _ _ _ (⟨0, 2⟩ : S32) )) (Reps.c2 (show Kd.M k32 _ _ _ (⟨(-1), 2⟩ : S32) [.int .i64 (-1), .int .i64 2] from (k32_mkM _ _ _ (⟨(-1), 2⟩ : S32) )) (Reps.c2 (show Kd.M k32 _ _ _ (⟨(-2), 1⟩ : S32) [.int .i64 (-2), .int .i64 1] from (k32_mkM _ _ _ (⟨(-2), 1⟩ : S32) )) (Reps.c2 (show Kd.M k32 _ _ _ (⟨(-2), 0⟩ : S32) [.int .i64 (-2), .int .i64 0] from (k32_mkM _ _ _ (⟨(-2), 0⟩ : S32) )) (Reps.c2 (show Kd.M k32 _ _ _ (⟨(-2), (-1)⟩ : S32) [.int .i64 (-2), .int .i64 (-1)] from (k32_mkM _ _ _ (⟨(-2), (-1)⟩ : S32) )) (Reps.c2 (show Kd.M k32 _ _ _ (⟨(-1), (-2)⟩ : S32) [.int .i64 (-1), .int .i64 (-2)] from (k32_mkM _ _ _ (⟨(-1), (-2)⟩ : S32) )) (Reps.c2 (show Kd.M k32 _ _ _ (⟨0, (-2)⟩ : S32) [.int .i64 0, .int .i64 (-2)] from (k32_mkM _ _ _ (⟨0, (-2)⟩ : S32) )) (Reps.c2 (show Kd.M k32 _ _ _ (⟨1, (-2)⟩ : S32) [.int .i64 1, .int .i64 (-2)] from (k32_mkM _ _ _ (⟨1, (-2)⟩ : S32) )) (Reps.c2 (show Kd.M k32 _ _ _ (⟨2, (-1)⟩ : S32) [.int .i64 2, .int .i64 (-1)] from (k32_mkM _ _ _ (⟨2, (-1)⟩ : S32) )) (Reps.none _ _)))))))))))))); intro v123 w2 ho3 hb hg_ hnew_; clear hg_ hnew_; (first | rw [← Ny122.out] at ho3 | (simp only [Int.reduceToNat] at ho3; rw [← Ny122.out] at ho3)); have n0_ := Aside0.mk (Kd.R_lower ho3 (keep_size (w := w) (g := g) (row := none) qq4)); have n1_ := Aside0.mk (IsS81.below qq8 hb); have n2_ := Aside0.mk (KeepBut.trans qq4 (KeepBut.of_below hb g none) (.inl rfl)); have n3_ := Aside0.mk (below_step qq6 hb); clear HI0; clear HK; clear HB; have HO124 := n0_; have HI0 := n1_; have HK := n2_; have HB := n3_; clear n0_ n1_ n2_ n3_; clear hb ho3) | ((with_reducible refine gate_dst (N := 20) rfl ?_); refine Kd.R_lit k32 _ 32 ?hg (N := 20) ?hd (xs := ([] : List (S32))) (inner := []) (ok := fun _ => True) (okp := fun _ => True) ?hr ?hp (fun _ hk => hk) trivial (Below.refl _ _) (Nat.le_refl _) (by simp) ?_; (case hd => rfl); (case hg => rfl); (case hr => exact qq22); (case hp => exact (Reps.none _ _)); intro v126 w4 ho5 hb hg_ hnew_; clear hg_ hnew_; (first | rw [← Ny125.out] at ho5 | (simp only [Int.reduceToNat] at ho5; rw [← Ny125.out] at ho5)); have n0_ := Aside0.mk (Kd.R_elder' (qq2 HO124.out) (Kd.R_base ho5) hb); have n1_ := Aside0.mk (Kd.R_lower (Kd.R_new' ho5 (Kd.R_lt (qq2 HO124.out))) (keep_size (w := w) (g := g) (row := none) qq4)); have n2_ := Aside0.mk (IsS81.below qq8 hb); have n3_ := Aside0.mk (KeepBut.trans qq4 (KeepBut.of_below hb g none) (.inl rfl)); have n4_ := Aside0.mk (below_step qq6 hb); clear HO124; clear HI0; clear HK; clear HB; have HO124 := n0_; have HO127 := n1_; have HI0 := n2_; have HK := n3_; have HB := n4_; clear n0_ n1_ n2_ n3_ n4_; clear hb ho5))
 go_loopg [4, 5] k (fun kq v4 v5 w' => ∃ (x4_1 : List (S32)) (x5_1 : Int) (x1001_1 : Int), v5 = .int .i64 x5_1 ∧ Aside0 (spec_l92Star.l0 kq y122 x4_1 x5_1 s0_0 x1001_1 = some (r1, r2)) ∧ Aside0 (kq ≤ k) ∧ Aside0 (Kd.R k32 32 w' w.heap.size (fun k_ => some k_ ≠ (v4 : Value).ownBlock) v123 y122) ∧ Aside0 (Kd.R k32 32 w' w.heap.size (fun k_ => some k_ ≠ (v123 : Value).ownBlock) v4 x4_1) ∧ Aside0 (IsS81 w0 w' g s0_0 x1001_1) ∧ Aside0 (KeepBut w w' g none) ∧ Aside0 (Below w0.heap.size w0 w'))
 case atStart => exact ⟨(y125), (0), (s0_1), qq25, H', ⟨Nat.le_refl _⟩, ⟨qq18 HO124.out⟩, ⟨qq18 HO127.out⟩, ⟨qq8⟩, ⟨qq4⟩, ⟨qq6⟩⟩
 case round =>
  clear H'
  try clear c2
  try clear p2
  obtain ⟨x4_1, x5_1, x1001_1, rfl, HA, HK1, HO_3, HO_4, HI0, HK, HB⟩ := hrel
  cases gk with
  | zero => exact absurd HA.out (by simp [spec_l92Star.l0])
  | succ k1 =>
   have H := HA.out
   clear HA
   simp only [spec_l92Star.l0] at H
   by_cases c6 : x5_1 < (y122.length : Int)
   ·rw [if_pos c6] at H
    have c6b0 : decide (x5_1 < (y122.length : Int)) = true := decide_eq_true c6
    clear c6
    by_cases c7 : (Int.tmod x5_1 4) = 0
    ·rw [if_pos c7] at H
     have c7b0 : ((Int.tmod x5_1 4) == 0) = true := beq_iff_eq.mpr c7
     have c7b1 : ((Int.tmod x5_1 4) != 0) = false := bne_eq_false_iff_eq.mpr c7
     clear c7
     replace H := Option.bind_eq_some_iff.mp H
     obtain ⟨⟨t128, t129⟩, A80, H⟩ := H
     replace H : (if 0 ≤ x5_1 then (if x4_1.length < 8796093022208 then (spec_l92Star.l0 k1 y122 (x4_1 ++ [(⟨wrap64 ((wrap64 (1 + t128)) * ((rd_T32 y122 x5_1).f0)), wrap64 ((wrap64 (1 + t128)) * ((rd_T32 y122 x5_1).f1))⟩ : S32)]) (wrap64 (x5_1 + 1)) s0_0 t129) else (none)) else (none)) = some (r1, r2) := H
     have A8 := Aside0.mk A80
     clear A80
     by_cases c9 : 0 ≤ x5_1
     ·rw [if_pos c9] at H
      have c9b0 : decide (0 ≤ x5_1) = true := decide_eq_true c9
      clear c9
      by_cases c10 : x4_1.length < 8796093022208
      ·rw [if_pos c10] at H
       have LMc10 := Aside0.mk c10
       clear c10
       obtain ⟨y132, hy132⟩ : ∃ y_ : List (S32), y_ = (x4_1 ++ [(⟨wrap64 ((wrap64 (1 + t128)) * ((rd_T32 y122 x5_1).f0)), wrap64 ((wrap64 (1 + t128)) * ((rd_T32 y122 x5_1).f1))⟩ : S32)]) := ⟨_, rfl⟩
       replace H : (spec_l92Star.l0 k1 y122 y132 (wrap64 (x5_1 + 1)) s0_0 t129) = some (r1, r2) := by first | (rw [hy132]; with_reducible exact H) | (have H2_ := (Option.bind_some _ _).symm.trans H; rw [hy132]; with_reducible exact H2_) | (have H2_ := (Option.bind_some _ _).symm.trans H; with_reducible exact H2_) | with_reducible exact H | (rw [hy132]; exact H) | exact H
       have Ny132 := Aside0.mk hy132
       clear hy132
       have H' := Aside0.mk H
       clear H
       obtain ⟨Ao11, co11, eo11⟩ := Kd.R_slice HO_3.out
       subst eo11
       try go_wp2_with (first | ((with_reducible refine gate_callee (f := 48) rfl ?_); refine goesL_ (some 36) rfl rfl Try.func48 (by kernel_rfl) rfl #[.pointer (some ⟨g, 0, none⟩), .int .i64 3] rfl qq3 ?_; (with_reducible refine (spec_l6Rd_pick.calls k1 g s0_0 x1001_1 3 t128 t129 w0 _ ?side1 ?side2 A8.out).mono ?_); (case side1 => exact qq8); (case side2 => exact qq6); rintro e w12 ⟨rfl, hi, hb, hk⟩; refine ⟨_, rfl, ?_⟩; have n0_ := Aside0.mk (Kd.R_mono (Kd.R_keep (IsS81.apart (show IsS81 w0 _ g s0_0 x1001_1 from by repeat (first | (with_reducible first | exact HI0.out | apply IsS81.alloc | apply IsS81.drewN | apply IsS81.drew | apply IsS81.set_1) | exact HI0.out)) (qq2 HO_3.out) (by decide)) hk (fun _ h => h.2)) (fun _ h => h.1)); have n1_ := Aside0.mk (Kd.R_mono (Kd.R_keep (IsS81.apart (show IsS81 w0 _ g s0_0 x1001_1 from by repeat (first | (with_reducible first | exact HI0.out | apply IsS81.alloc | apply IsS81.drewN | apply IsS81.drew | apply IsS81.set_1) | exact HI0.out)) (qq2 HO_4.out) (by decide)) hk (fun _ h => h.2)) (fun _ h => h.1)); have n2_ := Aside0.mk (KeepBut.trans qq4 hk (.inl rfl)); have n3_ := Aside0.mk (hb); have n4_ := Aside0.mk (hi); clear HO_3; clear HO_4; clear HK; clear HB; clear HI0; have HO_3 := n0_; have HO_4 := n1_; have HK := n2_; have HB := n3_; have HI0 := n4_; clear n0_ n1_ n2_ n3_ n4_; (try clear hb); (try clear hb2); (try clear hk); (try clear hi)))
       have n0_ := Aside0.mk (Kd.R_drew HO_3.out)
       have n1_ := Aside0.mk (Kd.R_drew HO_4.out)
       have n2_ := Aside0.mk (IsS81.drew HI0.out)
       have n3_ := Aside0.mk (keep_drew HK.out)
       have n4_ := Aside0.mk (below_drew1 HB.out)
       clear HO_3
       clear HO_4
       clear HI0
       clear HK
       clear HB
       have HO_3 := n0_
       have HO_4 := n1_
       have HI0 := n2_
       have HK := n3_
       have HB := n4_
       clear n0_ n1_ n2_ n3_ n4_
       have p130 : 0 ≤ (x5_1 : Int) := of_decide_eq_true qq14
       have q130 : x5_1 < (y122.length : Int) := of_decide_eq_true qq14
       obtain ⟨ad130, e130, hx130_0, hx130_1⟩ := at_T32 (Kd.R_reads' HO_3.out).2.2 x5_1 p130 q130
       cases e130
       replace p130 := eq_true p130
       replace q130 := eq_true q130
       have p131 : 0 ≤ (x5_1 : Int) := of_decide_eq_true qq14
       have q131 : x5_1 < (y122.length : Int) := of_decide_eq_true qq14
       obtain ⟨ad131, e131, hx131_0, hx131_1⟩ := at_T32 (Kd.R_reads' HO_3.out).2.2 x5_1 p131 q131
       obtain rfl : ad130 = ad131 := (by injection e131)
       replace p131 := eq_true p131
       replace q131 := eq_true q131
       refine start_ (n := 19) (S := fun w' => w'.cell? (ad130.add ((x5_1).toNat * 2)) = some (.int .i64 ((rd_T32 y122 x5_1).f0)) ∧ w'.cell? ⟨(ad130.add ((x5_1).toNat * 2)).block, (ad130.add ((x5_1).toNat * 2)).off + 1, none⟩ = some (.int .i64 ((rd_T32 y122 x5_1).f1)) ∧ w'.cell? (ad130.add ((x5_1).toNat * 2)) = some (.int .i64 ((rd_T32 y122 x5_1).f0)) ∧ w'.cell? ⟨(ad130.add ((x5_1).toNat * 2)).block, (ad130.add ((x5_1).toNat * 2)).off + 1, none⟩ = some (.int .i64 ((rd_T32 y122 x5_1).f1))) (ds := [16, 17]) #[false, false, false, false, false, false, false, false, false, false, false, false, false, false, false, false, false, false, false] (by kernel_rfl) rfl rfl ⟨hx130_0, hx130_1, hx131_0, hx131_1⟩ (fun hHeld => ?_); refine with_tabW spec_l92Star.tab8 spec_l92Star.bits8 (fun HT_ HW_ => ?_)
       generalize w12.drew = w13 at HO_3 HO_4 HI0 HK HB hx130_0 hx130_1 hx131_0 hx131_1 hHeld ⊢
       refine pure_ (i := 0) (N := some 38) #[true, false, false, false, false, false, false, false, false, false, false, false, false, false, false, false, false, false, false] rfl rfl (any_of HT_.out (by kernel_rfl)) (fun _ _ _ h => h) (Or.inl ⟨by rfl, pA_⟩) pB_ ?_
       refine pure_ (i := 1) (N := some 39) #[true, true, false, false, false, false, false, false, false, false, false, false, false, false, false, false, false, false, false] rfl rfl (any_of HT_.out (by kernel_rfl)) (fun _ _ _ h => h) (Or.inl ⟨by rfl, pA_⟩) pB_ ?_
       refine pure_ (i := 2) (N := some 40) #[true, true, true, false, false, false, false, false, false, false, false, false, false, false, false, false, false, false, false] rfl rfl (any_of HT_.out (by kernel_rfl)) (fun _ _ _ h => h) (Or.inl ⟨by rfl, pA_⟩) pB_ ?_
       refine pure_ (i := 3) (N := some 41) #[true, true, true, true, false, false, false, false, false, false, false, false, false, false, false, false, false, false, false] rfl rfl (any_of HT_.out (by kernel_rfl)) (fun _ _ _ h => h) (Or.inl ⟨by rfl, pA_⟩) pB_ ?_
       refine pure_ (i := 4) (N := some 42) #[true, true, true, true, true, false, false, false, false, false, false, false, false, false, false, false, false, false, false] rfl rfl (any_of HT_.out (by kernel_rfl)) (fun _ _ _ h => h) (Or.inl ⟨by rfl, pA_⟩) pB_ ?_
       refine pure_ (i := 5) (N := some 43) #[true, true, true, true, true, true, false, false, false, false, false, false, false, false, false, false, false, false, false] rfl rfl (any_of HT_.out (by kernel_rfl)) (fun _ _ _ h => h) (Or.inl ⟨by rfl, pA_⟩) pB_ ?_
       refine pure_ (i := 8) (N := some 46) #[true, true, true, true, true, true, false, false, true, false, false, false, false, false, false, false, false, false, false] rfl rfl (any_of HT_.out (by kernel_rfl)) (fun _ _ _ h => h) (Or.inl ⟨by rfl, pA_⟩) pB_ ?_
       refine pure_ (i := 9) (N := some 47) #[true, true, true, true, true, true, false, false, true, true, false, false, false, false, false, false, false, false, false] rfl rfl (any_of HT_.out (by kernel_rfl)) (fun _ _ _ h => h) (Or.inl ⟨by rfl, pA_⟩) pB_ ?_
       refine pure_ (i := 10) (N := some 48) #[true, true, true, true, true, true, false, false, true, true, true, false, false, false, false, false, false, false, false] rfl rfl (any_of HT_.out (by kernel_rfl)) (fun _ _ _ h => h) (Or.inl ⟨by rfl, pA_⟩) pB_ ?_
       refine pure_ (i := 11) (N := some 49) #[true, true, true, true, true, true, false, false, true, true, true, true, false, false, false, false, false, false, false] rfl rfl (any_of HT_.out (by kernel_rfl)) (fun _ _ _ h => h) (Or.inl ⟨by rfl, pA_⟩) pB_ ?_
       refine pure_ (i := 12) (N := some 50) #[true, true, true, true, true, true, false, false, true, true, true, true, true, false, false, false, false, false, false] rfl rfl (any_of HT_.out (by kernel_rfl)) (fun _ _ _ h => h) (Or.inl ⟨by rfl, pA_⟩) pB_ ?_
       refine take_ (i := 6) (N := some 44) (v := ?_) (a' := ?_) #[true, true, true, true, true, true, true, false, true, true, true, true, true, false, false, false, false, false, false] rfl rfl (take_ofW HT_.out HW_.out (by kernel_rfl)) (fun _ _ _ h => h) (Or.inl ⟨by rfl, ?_⟩) hHeld ?_ ?_
       rotate_left
       ·rintro w' ⟨s0, s1, s2, s3⟩
        go_simp
        with_reducible rfl
       rotate_left
       ·simp only [Act.put, List.setIfInBounds_toArray, List.set_cons_zero, List.set_cons_succ, i64_w, i32_w]
        rfl
       refine pure_ (i := 7) (N := some 45) #[true, true, true, true, true, true, true, true, true, true, true, true, true, false, false, false, false, false, false] rfl rfl (any_of HT_.out (by kernel_rfl)) (fun _ _ _ h => h) (Or.inl ⟨by rfl, pA_⟩) pB_ ?_
       refine take_ (i := 13) (N := some 51) (v := ?_) (a' := ?_) #[true, true, true, true, true, true, true, true, true, true, true, true, true, true, false, false, false, false, false] rfl rfl (take_ofW HT_.out HW_.out (by kernel_rfl)) (fun _ _ _ h => h) (Or.inl ⟨by rfl, ?_⟩) hHeld ?_ ?_
       rotate_left
       ·rintro w' ⟨s0, s1, s2, s3⟩
        go_simp
        with_reducible rfl
       rotate_left
       ·simp only [Act.put, List.setIfInBounds_toArray, List.set_cons_zero, List.set_cons_succ, i64_w, i32_w]
        rfl
       refine pure_ (i := 14) (N := some 52) #[true, true, true, true, true, true, true, true, true, true, true, true, true, true, true, false, false, false, false] rfl rfl (any_of HT_.out (by kernel_rfl)) (fun _ _ _ h => h) (Or.inl ⟨by rfl, pA_⟩) pB_ ?_
       refine pure_ (i := 15) (N := some 53) #[true, true, true, true, true, true, true, true, true, true, true, true, true, true, true, true, false, false, false] rfl rfl (any_of HT_.out (by kernel_rfl)) (fun _ _ _ h => h) (Or.inl ⟨by rfl, pA_⟩) pB_ ?_
       refine last_ (i := 16) (N := some 54) #[true, true, true, true, true, true, true, true, true, true, true, true, true, true, true, true, true, false, false] rfl rfl (one_of HT_.out (by kernel_rfl)) (by decide) (fun K hK => ?_)
       refine value_ (w1 := ?_) (v := ?_) (by rfl) rfl ?_ ?_
       rotate_left 2
       ·go_simp
        constructor
        ·rfl
        ·rfl
       refine hK.out _ _ ?_
       clear hK K
       refine norm_ (a' := ?_) ?_ ?_
       rotate_left
       ·show Act.put _ (some 54) _ = _
        simp only [Act.put, List.setIfInBounds_toArray, List.set_cons_zero, List.set_cons_succ, i64_w, i32_w]
        rfl
       refine last_ (i := 17) (N := some 55) #[true, true, true, true, true, true, true, true, true, true, true, true, true, true, true, true, true, true, false] rfl rfl (one_of HT_.out (by kernel_rfl)) (by decide) (fun K hK => ?_)
       refine Kd.R_append_step k32 w.heap.size (by rfl) (.tmp 38) (.tmp 54) 23 32 (.agg #[(.int .i64 0), (.int .i64 0)]) 16 rfl Try.underlying23 info32 rfl (by decide) (by omega) u4 x4_1 (⟨wrap64 ((wrap64 (1 + t128)) * ((rd_T32 y122 x5_1).f0)), wrap64 ((wrap64 (1 + t128)) * ((rd_T32 y122 x5_1).f1))⟩ : S32) [.int .i64 (wrap64 ((wrap64 (1 + t128)) * ((rd_T32 y122 x5_1).f0))), .int .i64 (wrap64 ((wrap64 (1 + t128)) * ((rd_T32 y122 x5_1).f1)))] (fun k_ => some k_ ≠ (.slice (some ad130) y122.length co11 : Value).ownBlock) (fun _ => False) rfl rfl ?aP (fun _ hk => hk.elim) ?aF ?aO (Below.refl _ _) ?aS ?aL ?_
       (case aP => exact k32_mkM _ _ _ (⟨wrap64 ((wrap64 (1 + t128)) * ((rd_T32 y122 x5_1).f0)), wrap64 ((wrap64 (1 + t128)) * ((rd_T32 y122 x5_1).f1))⟩ : S32))
       (case aF => exact qq47 HO_3.out)
       (case aO => exact (qq2 HO_4.out))
       (case aS => exact qq72)
       (case aL => have := LMc10.out; omega)
       intro v133 w14 ho hb hg hat
       rw [← Ny132.out] at ho
       have n0_ := Aside0.mk (Kd.R_after (ok := (fun _ => True)) qq78 hg hat)
       have n1_ := Aside0.mk (IsS81.grown qq8 hg (IsS81.own_ne HI0.out HO_4.out (by decide)))
       have n2_ := Aside0.mk (below_weaken qq6 HL.out hb)
       have n3_ := Aside0.mk (KeepBut.trans qq4 (KeepBut.of_grown hg g) (Kd.R_base2 HO_4.out))
       have n4_ := Aside0.mk (ho)
       clear HO_3
       clear HI0
       clear HB
       clear HK
       clear HO_4
       have HO_3 := n0_
       have HI0 := n1_
       have HB := n2_
       have HK := n3_
       have HO134 := n4_
       clear n0_ n1_ n2_ n3_ n4_
       clear ho hb hg hat
       refine hK.out _ _ ?_
       clear hK K
       refine norm_ (a' := ?_) ?_ ?_
       rotate_left
       ·show Act.put _ (some 55) _ = _
        simp only [Act.put, List.setIfInBounds_toArray, List.set_cons_zero, List.set_cons_succ, i64_w, i32_w]
        rfl
       refine pure_ (i := 18) (N := some 4) #[true, true, true, true, true, true, true, true, true, true, true, true, true, true, true, true, true, true, true] rfl rfl (any_of HT_.out (by kernel_rfl)) (fun _ _ _ h => h) (Or.inl ⟨by rfl, pA_⟩) pB_ ?_
       refine done_ (done_of HT_.out (by kernel_rfl)) ?_
       try go_wp2
       go_roundg k1
       case measure => have := HK1.out; omega
       case rel => exact ⟨(y132), (wrap64 (x5_1 + 1)), (t129), qq25, H', ⟨by have := HK1.out; omega⟩, ⟨qq18 HO_3.out⟩, ⟨qq2 HO134.out⟩, ⟨qq8⟩, ⟨qq4⟩, ⟨qq6⟩⟩
      ·rw [if_neg c10] at H
       exact absurd H (by simp)
     ·rw [if_neg c9] at H
      exact absurd H (by simp)
    ·rw [if_neg c7] at H
     have c7b0 : ((Int.tmod x5_1 4) == 0) = false := beq_eq_false_iff_ne.mpr c7
     have c7b1 : ((Int.tmod x5_1 4) != 0) = true := bne_iff_ne.mpr c7
     replace H := Option.bind_eq_some_iff.mp H
     obtain ⟨⟨t135, t136⟩, A150, H⟩ := H
     replace H : (if t135 = 0 then ((spec_l6Rd_pick.f k1 s0_0 t136 3).bind fun bt137 => (if 0 ≤ x5_1 then (if x4_1.length < 8796093022208 then (spec_l92Star.l0 k1 y122 (x4_1 ++ [(⟨wrap64 ((wrap64 (1 + bt137.1)) * ((rd_T32 y122 x5_1).f0)), wrap64 ((wrap64 (1 + bt137.1)) * ((rd_T32 y122 x5_1).f1))⟩ : S32)]) (wrap64 (x5_1 + 1)) s0_0 bt137.2) else (none)) else (none))) else (spec_l92Star.l0 k1 y122 x4_1 (wrap64 (x5_1 + 1)) s0_0 t136)) = some (r1, r2) := H
     have A15 := Aside0.mk A150
     clear A150
     by_cases c16 : t135 = 0
     ·rw [if_pos c16] at H
      have c16b0 : (t135 == 0) = true := beq_iff_eq.mpr c16
      have c16b1 : (t135 != 0) = false := bne_eq_false_iff_eq.mpr c16
      clear c16
      replace H := Option.bind_eq_some_iff.mp H
      obtain ⟨⟨t137, t138⟩, A170, H⟩ := H
      replace H : (if 0 ≤ x5_1 then (if x4_1.length < 8796093022208 then (spec_l92Star.l0 k1 y122 (x4_1 ++ [(⟨wrap64 ((wrap64 (1 + t137)) * ((rd_T32 y122 x5_1).f0)), wrap64 ((wrap64 (1 + t137)) * ((rd_T32 y122 x5_1).f1))⟩ : S32)]) (wrap64 (x5_1 + 1)) s0_0 t138) else (none)) else (none)) = some (r1, r2) := H
      have A17 := Aside0.mk A170
      clear A170
      by_cases c18 : 0 ≤ x5_1
      ·rw [if_pos c18] at H
       have c18b0 : decide (0 ≤ x5_1) = true := decide_eq_true c18
       clear c18
       by_cases c19 : x4_1.length < 8796093022208
       ·rw [if_pos c19] at H
        have LMc19 := Aside0.mk c19
        clear c19
        obtain ⟨y141, hy141⟩ : ∃ y_ : List (S32), y_ = (x4_1 ++ [(⟨wrap64 ((wrap64 (1 + t137)) * ((rd_T32 y122 x5_1).f0)), wrap64 ((wrap64 (1 + t137)) * ((rd_T32 y122 x5_1).f1))⟩ : S32)]) := ⟨_, rfl⟩
        replace H : (spec_l92Star.l0 k1 y122 y141 (wrap64 (x5_1 + 1)) s0_0 t138) = some (r1, r2) := by first | (rw [hy141]; with_reducible exact H) | (have H2_ := (Option.bind_some _ _).symm.trans H; rw [hy141]; with_reducible exact H2_) | (have H2_ := (Option.bind_some _ _).symm.trans H; with_reducible exact H2_) | with_reducible exact H | (rw [hy141]; exact H) | exact H
        have Ny141 := Aside0.mk hy141
        clear hy141
        have H' := Aside0.mk H
        clear H
        obtain ⟨Ao20, co20, eo20⟩ := Kd.R_slice HO_3.out
        subst eo20
        try go_wp2_with (first | (go_at_call 48; (with_reducible refine (spec_l6Rd_pick.calls k1 g s0_0 x1001_1 3 t135 t136 w0 _ ?side1 ?side2 A15.out).mono ?_); (case side1 => exact qq8); (case side2 => exact qq6); rintro e w21 ⟨rfl, hi, hb, hk⟩; have n0_ := Aside0.mk (Kd.R_mono (Kd.R_keep (IsS81.apart (show IsS81 w0 _ g s0_0 x1001_1 from by repeat (first | (with_reducible first | exact HI0.out | apply IsS81.alloc | apply IsS81.drewN | apply IsS81.drew | apply IsS81.set_1) | exact HI0.out)) (qq2 HO_3.out) (by decide)) hk (fun _ h => h.2)) (fun _ h => h.1)); have n1_ := Aside0.mk (Kd.R_mono (Kd.R_keep (IsS81.apart (show IsS81 w0 _ g s0_0 x1001_1 from by repeat (first | (with_reducible first | exact HI0.out | apply IsS81.alloc | apply IsS81.drewN | apply IsS81.drew | apply IsS81.set_1) | exact HI0.out)) (qq2 HO_4.out) (by decide)) hk (fun _ h => h.2)) (fun _ h => h.1)); have n2_ := Aside0.mk (KeepBut.trans qq4 hk (.inl rfl)); have n3_ := Aside0.mk (hb); have n4_ := Aside0.mk (hi); clear HO_3; clear HO_4; clear HK; clear HB; clear HI0; have HO_3 := n0_; have HO_4 := n1_; have HK := n2_; have HB := n3_; have HI0 := n4_; clear n0_ n1_ n2_ n3_ n4_; (try clear hb); (try clear hb2); (try clear hk); (try clear hi)) | ((with_reducible refine gate_callee (f := 48) rfl ?_); refine goesL_ (some 36) rfl rfl Try.func48 (by kernel_rfl) rfl #[.pointer (some ⟨g, 0, none⟩), .int .i64 3] rfl qq3 ?_; (with_reducible refine (spec_l6Rd_pick.calls k1 g s0_0 t136 3 t137 t138 w0 _ ?side1 ?side2 A17.out).mono ?_); (case side1 => exact qq8); (case side2 => exact qq6); rintro e w22 ⟨rfl, hi, hb, hk⟩; refine ⟨_, rfl, ?_⟩; have n0_ := Aside0.mk (Kd.R_mono (Kd.R_keep (IsS81.apart (show IsS81 w0 _ g s0_0 t136 from by repeat (first | (with_reducible first | exact HI0.out | apply IsS81.alloc | apply IsS81.drewN | apply IsS81.drew | apply IsS81.set_1) | exact HI0.out)) (qq2 HO_3.out) (by decide)) hk (fun _ h => h.2)) (fun _ h => h.1)); have n1_ := Aside0.mk (Kd.R_mono (Kd.R_keep (IsS81.apart (show IsS81 w0 _ g s0_0 t136 from by repeat (first | (with_reducible first | exact HI0.out | apply IsS81.alloc | apply IsS81.drewN | apply IsS81.drew | apply IsS81.set_1) | exact HI0.out)) (qq2 HO_4.out) (by decide)) hk (fun _ h => h.2)) (fun _ h => h.1)); have n2_ := Aside0.mk (KeepBut.trans qq4 hk (.inl rfl)); have n3_ := Aside0.mk (hb); have n4_ := Aside0.mk (hi); clear HO_3; clear HO_4; clear HK; clear HB; clear HI0; have HO_3 := n0_; have HO_4 := n1_; have HK := n2_; have HB := n3_; have HI0 := n4_; clear n0_ n1_ n2_ n3_ n4_; (try clear hb); (try clear hb2); (try clear hk); (try clear hi)))
        have n0_ := Aside0.mk (Kd.R_drew HO_3.out)
        have n1_ := Aside0.mk (Kd.R_drew HO_4.out)
        have n2_ := Aside0.mk (IsS81.drew HI0.out)
        have n3_ := Aside0.mk (keep_drew HK.out)
        have n4_ := Aside0.mk (below_drew1 HB.out)
        clear HO_3
        clear HO_4
        clear HI0
        clear HK
        clear HB
        have HO_3 := n0_
        have HO_4 := n1_
        have HI0 := n2_
        have HK := n3_
        have HB := n4_
        clear n0_ n1_ n2_ n3_ n4_
        have p139 : 0 ≤ (x5_1 : Int) := of_decide_eq_true qq14
        have q139 : x5_1 < (y122.length : Int) := of_decide_eq_true qq14
        obtain ⟨ad139, e139, hx139_0, hx139_1⟩ := at_T32 (Kd.R_reads' HO_3.out).2.2 x5_1 p139 q139
        cases e139
        replace p139 := eq_true p139
        replace q139 := eq_true q139
        have p140 : 0 ≤ (x5_1 : Int) := of_decide_eq_true qq14
        have q140 : x5_1 < (y122.length : Int) := of_decide_eq_true qq14
        obtain ⟨ad140, e140, hx140_0, hx140_1⟩ := at_T32 (Kd.R_reads' HO_3.out).2.2 x5_1 p140 q140
        obtain rfl : ad139 = ad140 := (by injection e140)
        replace p140 := eq_true p140
        replace q140 := eq_true q140
        refine start_ (n := 19) (S := fun w' => w'.cell? (ad139.add ((x5_1).toNat * 2)) = some (.int .i64 ((rd_T32 y122 x5_1).f0)) ∧ w'.cell? ⟨(ad139.add ((x5_1).toNat * 2)).block, (ad139.add ((x5_1).toNat * 2)).off + 1, none⟩ = some (.int .i64 ((rd_T32 y122 x5_1).f1)) ∧ w'.cell? (ad139.add ((x5_1).toNat * 2)) = some (.int .i64 ((rd_T32 y122 x5_1).f0)) ∧ w'.cell? ⟨(ad139.add ((x5_1).toNat * 2)).block, (ad139.add ((x5_1).toNat * 2)).off + 1, none⟩ = some (.int .i64 ((rd_T32 y122 x5_1).f1))) (ds := [16, 17]) #[false, false, false, false, false, false, false, false, false, false, false, false, false, false, false, false, false, false, false] (by kernel_rfl) rfl rfl ⟨hx139_0, hx139_1, hx140_0, hx140_1⟩ (fun hHeld => ?_); refine with_tabW spec_l92Star.tab8 spec_l92Star.bits8 (fun HT_ HW_ => ?_)
        generalize w22.drew = w23 at HO_3 HO_4 HI0 HK HB hx139_0 hx139_1 hx140_0 hx140_1 hHeld ⊢
        refine pure_ (i := 0) (N := some 38) #[true, false, false, false, false, false, false, false, false, false, false, false, false, false, false, false, false, false, false] rfl rfl (any_of HT_.out (by kernel_rfl)) (fun _ _ _ h => h) (Or.inl ⟨by rfl, pA_⟩) pB_ ?_
        refine pure_ (i := 1) (N := some 39) #[true, true, false, false, false, false, false, false, false, false, false, false, false, false, false, false, false, false, false] rfl rfl (any_of HT_.out (by kernel_rfl)) (fun _ _ _ h => h) (Or.inl ⟨by rfl, pA_⟩) pB_ ?_
        refine pure_ (i := 2) (N := some 40) #[true, true, true, false, false, false, false, false, false, false, false, false, false, false, false, false, false, false, false] rfl rfl (any_of HT_.out (by kernel_rfl)) (fun _ _ _ h => h) (Or.inl ⟨by rfl, pA_⟩) pB_ ?_
        refine pure_ (i := 3) (N := some 41) #[true, true, true, true, false, false, false, false, false, false, false, false, false, false, false, false, false, false, false] rfl rfl (any_of HT_.out (by kernel_rfl)) (fun _ _ _ h => h) (Or.inl ⟨by rfl, pA_⟩) pB_ ?_
        refine pure_ (i := 4) (N := some 42) #[true, true, true, true, true, false, false, false, false, false, false, false, false, false, false, false, false, false, false] rfl rfl (any_of HT_.out (by kernel_rfl)) (fun _ _ _ h => h) (Or.inl ⟨by rfl, pA_⟩) pB_ ?_
        refine pure_ (i := 5) (N := some 43) #[true, true, true, true, true, true, false, false, false, false, false, false, false, false, false, false, false, false, false] rfl rfl (any_of HT_.out (by kernel_rfl)) (fun _ _ _ h => h) (Or.inl ⟨by rfl, pA_⟩) pB_ ?_
        refine pure_ (i := 8) (N := some 46) #[true, true, true, true, true, true, false, false, true, false, false, false, false, false, false, false, false, false, false] rfl rfl (any_of HT_.out (by kernel_rfl)) (fun _ _ _ h => h) (Or.inl ⟨by rfl, pA_⟩) pB_ ?_
        refine pure_ (i := 9) (N := some 47) #[true, true, true, true, true, true, false, false, true, true, false, false, false, false, false, false, false, false, false] rfl rfl (any_of HT_.out (by kernel_rfl)) (fun _ _ _ h => h) (Or.inl ⟨by rfl, pA_⟩) pB_ ?_
        refine pure_ (i := 10) (N := some 48) #[true, true, true, true, true, true, false, false, true, true, true, false, false, false, false, false, false, false, false] rfl rfl (any_of HT_.out (by kernel_rfl)) (fun _ _ _ h => h) (Or.inl ⟨by rfl, pA_⟩) pB_ ?_
        refine pure_ (i := 11) (N := some 49) #[true, true, true, true, true, true, false, false, true, true, true, true, false, false, false, false, false, false, false] rfl rfl (any_of HT_.out (by kernel_rfl)) (fun _ _ _ h => h) (Or.inl ⟨by rfl, pA_⟩) pB_ ?_
        refine pure_ (i := 12) (N := some 50) #[true, true, true, true, true, true, false, false, true, true, true, true, true, false, false, false, false, false, false] rfl rfl (any_of HT_.out (by kernel_rfl)) (fun _ _ _ h => h) (Or.inl ⟨by rfl, pA_⟩) pB_ ?_
        refine take_ (i := 6) (N := some 44) (v := ?_) (a' := ?_) #[true, true, true, true, true, true, true, false, true, true, true, true, true, false, false, false, false, false, false] rfl rfl (take_ofW HT_.out HW_.out (by kernel_rfl)) (fun _ _ _ h => h) (Or.inl ⟨by rfl, ?_⟩) hHeld ?_ ?_
        rotate_left
        ·rintro w' ⟨s0, s1, s2, s3⟩
         go_simp
         with_reducible rfl
        rotate_left
        ·simp only [Act.put, List.setIfInBounds_toArray, List.set_cons_zero, List.set_cons_succ, i64_w, i32_w]
         rfl
        refine pure_ (i := 7) (N := some 45) #[true, true, true, true, true, true, true, true, true, true, true, true, true, false, false, false, false, false, false] rfl rfl (any_of HT_.out (by kernel_rfl)) (fun _ _ _ h => h) (Or.inl ⟨by rfl, pA_⟩) pB_ ?_
        refine take_ (i := 13) (N := some 51) (v := ?_) (a' := ?_) #[true, true, true, true, true, true, true, true, true, true, true, true, true, true, false, false, false, false, false] rfl rfl (take_ofW HT_.out HW_.out (by kernel_rfl)) (fun _ _ _ h => h) (Or.inl ⟨by rfl, ?_⟩) hHeld ?_ ?_
        rotate_left
        ·rintro w' ⟨s0, s1, s2, s3⟩
         go_simp
         with_reducible rfl
        rotate_left
        ·simp only [Act.put, List.setIfInBounds_toArray, List.set_cons_zero, List.set_cons_succ, i64_w, i32_w]
         rfl
        refine pure_ (i := 14) (N := some 52) #[true, true, true, true, true, true, true, true, true, true, true, true, true, true, true, false, false, false, false] rfl rfl (any_of HT_.out (by kernel_rfl)) (fun _ _ _ h => h) (Or.inl ⟨by rfl, pA_⟩) pB_ ?_
        refine pure_ (i := 15) (N := some 53) #[true, true, true, true, true, true, true, true, true, true, true, true, true, true, true, true, false, false, false] rfl rfl (any_of HT_.out (by kernel_rfl)) (fun _ _ _ h => h) (Or.inl ⟨by rfl, pA_⟩) pB_ ?_
        refine last_ (i := 16) (N := some 54) #[true, true, true, true, true, true, true, true, true, true, true, true, true, true, true, true, true, false, false] rfl rfl (one_of HT_.out (by kernel_rfl)) (by decide) (fun K hK => ?_)
        refine value_ (w1 := ?_) (v := ?_) (by rfl) rfl ?_ ?_
        rotate_left 2
        ·go_simp
         constructor
         ·rfl
         ·rfl
        refine hK.out _ _ ?_
        clear hK K
        refine norm_ (a' := ?_) ?_ ?_
        rotate_left
        ·show Act.put _ (some 54) _ = _
         simp only [Act.put, List.setIfInBounds_toArray, List.set_cons_zero, List.set_cons_succ, i64_w, i32_w]
         rfl
        refine last_ (i := 17) (N := some 55) #[true, true, true, true, true, true, true, true, true, true, true, true, true, true, true, true, true, true, false] rfl rfl (one_of HT_.out (by kernel_rfl)) (by decide) (fun K hK => ?_)
        refine Kd.R_append_step k32 w.heap.size (by rfl) (.tmp 38) (.tmp 54) 23 32 (.agg #[(.int .i64 0), (.int .i64 0)]) 16 rfl Try.underlying23 info32 rfl (by decide) (by omega) u4 x4_1 (⟨wrap64 ((wrap64 (1 + t137)) * ((rd_T32 y122 x5_1).f0)), wrap64 ((wrap64 (1 + t137)) * ((rd_T32 y122 x5_1).f1))⟩ : S32) [.int .i64 (wrap64 ((wrap64 (1 + t137)) * ((rd_T32 y122 x5_1).f0))), .int .i64 (wrap64 ((wrap64 (1 + t137)) * ((rd_T32 y122 x5_1).f1)))] (fun k_ => some k_ ≠ (.slice (some ad139) y122.length co20 : Value).ownBlock) (fun _ => False) rfl rfl ?aP (fun _ hk => hk.elim) ?aF ?aO (Below.refl _ _) ?aS ?aL ?_
        (case aP => exact k32_mkM _ _ _ (⟨wrap64 ((wrap64 (1 + t137)) * ((rd_T32 y122 x5_1).f0)), wrap64 ((wrap64 (1 + t137)) * ((rd_T32 y122 x5_1).f1))⟩ : S32))
        (case aF => exact qq47 HO_3.out)
        (case aO => exact (qq2 HO_4.out))
        (case aS => exact qq72)
        (case aL => have := LMc19.out; omega)
        intro v142 w24 ho hb hg hat
        rw [← Ny141.out] at ho
        have n0_ := Aside0.mk (Kd.R_after (ok := (fun _ => True)) qq78 hg hat)
        have n1_ := Aside0.mk (IsS81.grown qq8 hg (IsS81.own_ne HI0.out HO_4.out (by decide)))
        have n2_ := Aside0.mk (below_weaken qq6 HL.out hb)
        have n3_ := Aside0.mk (KeepBut.trans qq4 (KeepBut.of_grown hg g) (Kd.R_base2 HO_4.out))
        have n4_ := Aside0.mk (ho)
        clear HO_3
        clear HI0
        clear HB
        clear HK
        clear HO_4
        have HO_3 := n0_
        have HI0 := n1_
        have HB := n2_
        have HK := n3_
        have HO143 := n4_
        clear n0_ n1_ n2_ n3_ n4_
        clear ho hb hg hat
        refine hK.out _ _ ?_
        clear hK K
        refine norm_ (a' := ?_) ?_ ?_
        rotate_left
        ·show Act.put _ (some 55) _ = _
         simp only [Act.put, List.setIfInBounds_toArray, List.set_cons_zero, List.set_cons_succ, i64_w, i32_w]
         rfl
        refine pure_ (i := 18) (N := some 4) #[true, true, true, true, true, true, true, true, true, true, true, true, true, true, true, true, true, true, true] rfl rfl (any_of HT_.out (by kernel_rfl)) (fun _ _ _ h => h) (Or.inl ⟨by rfl, pA_⟩) pB_ ?_
        refine done_ (done_of HT_.out (by kernel_rfl)) ?_
        try go_wp2
        go_roundg k1
        case measure => have := HK1.out; omega
        case rel => exact ⟨(y141), (wrap64 (x5_1 + 1)), (t138), qq25, H', ⟨by have := HK1.out; omega⟩, ⟨qq18 HO_3.out⟩, ⟨qq2 HO143.out⟩, ⟨qq8⟩, ⟨qq4⟩, ⟨qq6⟩⟩
       ·rw [if_neg c19] at H
        exact absurd H (by simp)
      ·rw [if_neg c18] at H
       exact absurd H (by simp)
     ·rw [if_neg c16] at H
      have c16b0 : (t135 == 0) = false := beq_eq_false_iff_ne.mpr c16
      have c16b1 : (t135 != 0) = true := bne_iff_ne.mpr c16
      have H' := Aside0.mk H
      clear H
      obtain ⟨Ao25, co25, eo25⟩ := Kd.R_slice HO_3.out
      subst eo25
      go_wp2_with (first | (go_at_call 48; (with_reducible refine (spec_l6Rd_pick.calls k1 g s0_0 x1001_1 3 t135 t136 w0 _ ?side1 ?side2 A15.out).mono ?_); (case side1 => exact qq8); (case side2 => exact qq6); rintro e w26 ⟨rfl, hi, hb, hk⟩; have n0_ := Aside0.mk (Kd.R_mono (Kd.R_keep (IsS81.apart (show IsS81 w0 _ g s0_0 x1001_1 from by repeat (first | (with_reducible first | exact HI0.out | apply IsS81.alloc | apply IsS81.drewN | apply IsS81.drew | apply IsS81.set_1) | exact HI0.out)) (qq2 HO_3.out) (by decide)) hk (fun _ h => h.2)) (fun _ h => h.1)); have n1_ := Aside0.mk (Kd.R_mono (Kd.R_keep (IsS81.apart (show IsS81 w0 _ g s0_0 x1001_1 from by repeat (first | (with_reducible first | exact HI0.out | apply IsS81.alloc | apply IsS81.drewN | apply IsS81.drew | apply IsS81.set_1) | exact HI0.out)) (qq2 HO_4.out) (by decide)) hk (fun _ h => h.2)) (fun _ h => h.1)); have n2_ := Aside0.mk (KeepBut.trans qq4 hk (.inl rfl)); have n3_ := Aside0.mk (hb); have n4_ := Aside0.mk (hi); clear HO_3; clear HO_4; clear HK; clear HB; clear HI0; have HO_3 := n0_; have HO_4 := n1_; have HK := n2_; have HB := n3_; have HI0 := n4_; clear n0_ n1_ n2_ n3_ n4_; (try clear hb); (try clear hb2); (try clear hk); (try clear hi)))
      go_roundg k1
      case measure => have := HK1.out; omega
      case rel => exact ⟨(x4_1), (wrap64 (x5_1 + 1)), (t136), qq25, H', ⟨by have := HK1.out; omega⟩, ⟨qq2 HO_3.out⟩, ⟨qq2 HO_4.out⟩, ⟨qq8⟩, ⟨qq4⟩, ⟨qq6⟩⟩
   ·rw [if_neg c6] at H
    have c6b0 : decide (x5_1 < (y122.length : Int)) = false := decide_eq_false c6
    clear c6
    simp only [Option.some.injEq, Prod.mk.injEq] at H
    obtain ⟨rfl, rfl⟩ := H
    obtain ⟨Ao27, co27, eo27⟩ := Kd.R_slice HO_3.out
    subst eo27
    go_wp2
    go_ret
    exact ⟨_, qq10, qq68 HO_4.out, qq8, qq6, qq4⟩

end Go.Proofs.Ytgdhgncdpmalcaa.Q
namespace Go.Proofs.Ytgdhgncdpmalcaa.Q
open Go.RowKit Go.Proofs.YtgdhgncdpmalcaaW.PrintWords Go.Proofs.YtgdhgncdpmalcaaW.PrintLast Go.Proofs.YtgdhgncdpmalcaaW.PrintMore
attribute [local go_sem] max2_int min2_int max_two min_two max_three min_three max_four min_four
set_option linter.unusedVariables false
set_option linter.unusedSimpArgs false

/-! ### spec_PolyBack: function 73 -/
def spec_PolyBack.l0 : Nat → List (S32) → List (S32) → Int → Option ((List (S32)) × Bool)
 | 0, _, _, _ => none
 | k + 1, x0, x4, x5 => if x5 > 0 then (if 0 ≤ x5 then (if x5 < (x0.length : Int) then (if x4.length < 8796093022208 then (spec_PolyBack.l0 k x0 (x4 ++ [(⟨(rd_T32 x0 x5).f0, (rd_T32 x0 x5).f1⟩ : S32)]) (wrap64 (x5 - 1))) else (none)) else (none)) else (none)) else (some (x4, true))
def spec_PolyBack.f (k : Nat) (l0 : List (S32)) : Option ((List (S32)) × Bool) := (spec_l31Points.f k l0).bind fun t150 => (if t150 = true then (if 0 < (l0.length : Int) then (spec_PolyBack.l0 k l0 (([(⟨(rd_T32 l0 0).f0, (rd_T32 l0 0).f1⟩ : S32)] : List (S32))) (wrap64 ((l0.length : Int) - 1))) else (none)) else (some ((([] : List (S32))), false)))
set_option maxHeartbeats 8000000 in
set_option maxRecDepth 100000 in
theorem spec_PolyBack.calls (k : Nat) (A0 : Option Addr) (c0 : Nat) (l0 : List (S32)) (r1 : List (S32)) (r2 : Bool) (w : World) (hr0 : Kd.C k32 w A0 l0.length l0) (hc0 : l0.length ≤ c0) (h : spec_PolyBack.f k l0 = some (r1, r2)) :
  Calls Try.prog 73 #[.slice A0 l0.length c0] w fun e w' => ∃ v0_ : Value, e = .returned (.tuple #[v0_, .bool r2]) ∧ Kd.R k32 32 w' w.heap.size (fun _ => True) v0_ r1 ∧ Below w.heap.size w w' := by
 have hu32 := Try.underlying32
 have HR0 := Aside0.mk hr0
 have HC0 := Aside0.mk hc0
 clear hr0 hc0
 have HB := Aside0.mk (Below.refl w.heap.size w)
 have H : ((spec_l31Points.f k l0).bind fun t150 => (if t150 = true then (if 0 < (l0.length : Int) then (spec_PolyBack.l0 k l0 (([(⟨(rd_T32 l0 0).f0, (rd_T32 l0 0).f1⟩ : S32)] : List (S32))) (wrap64 ((l0.length : Int) - 1))) else (none)) else (some ((([] : List (S32))), false)))) = some (r1, r2) := h
 clear h
 replace H := Option.bind_eq_some_iff.mp H
 obtain ⟨t150, A20, H⟩ := H
 replace H : (if t150 = true then (if 0 < (l0.length : Int) then (spec_PolyBack.l0 k l0 (([(⟨(rd_T32 l0 0).f0, (rd_T32 l0 0).f1⟩ : S32)] : List (S32))) (wrap64 ((l0.length : Int) - 1))) else (none)) else (some ((([] : List (S32))), false))) = some (r1, r2) := H
 have A2 := Aside0.mk A20
 clear A20
 by_cases c3 : t150 = true
 ·subst c3
  have H1 : (if 0 < (l0.length : Int) then (spec_PolyBack.l0 k l0 (([(⟨(rd_T32 l0 0).f0, (rd_T32 l0 0).f1⟩ : S32)] : List (S32))) (wrap64 ((l0.length : Int) - 1))) else (none)) = some (r1, r2) := by rw [if_pos rfl] at H; exact H
  clear H
  have H := H1
  clear H1
  by_cases c4 : 0 < (l0.length : Int)
  ·rw [if_pos c4] at H
   have c4b0 : decide (0 < (l0.length : Int)) = true := decide_eq_true c4
   have c4b1 : decide (0 < l0.length) = true := decide_eq_true (by omega)
   clear c4
   obtain ⟨y155, hy155⟩ : ∃ y_ : List (S32), y_ = (([(⟨(rd_T32 l0 0).f0, (rd_T32 l0 0).f1⟩ : S32)] : List (S32))) := ⟨_, rfl⟩
   replace H : (spec_PolyBack.l0 k l0 y155 (wrap64 ((l0.length : Int) - 1))) = some (r1, r2) := by first | (rw [hy155]; with_reducible exact H) | (have H2_ := (Option.bind_some _ _).symm.trans H; rw [hy155]; with_reducible exact H2_) | (have H2_ := (Option.bind_some _ _).symm.trans H; with_reducible exact H2_) | with_reducible exact H | (rw [hy155]; exact H) | exact H
   have Ny155 := Aside0.mk hy155
   clear hy155
   have H' := Aside0.mk H
   clear H
   go_enter Try.func73, Try.ntmps73
   go_wp2_with (first | ((with_reducible refine gate_callee (f := 45) rfl ?_); refine goesL_ (some 7) rfl rfl Try.func45 (by kernel_rfl) rfl #[.slice A0 l0.length c0] rfl qq3 ?_; (with_reducible refine (spec_l31Points.calls k _ _ l0 true _ ?side1 ?side2 A2.out).mono ?_); (case side1 => exact qq53); (case side2 => exact HC0.out); rintro e w5 ⟨rfl, hb⟩; refine ⟨_, rfl, ?_⟩; have n0_ := Aside0.mk (below_step qq1 hb); clear HB; have HB := n0_; clear n0_; (try clear hb); (try clear hb2); (try clear hk); (try clear hi); have p154 : 0 ≤ (0 : Int) := (by omega); have q154 : 0 < (l0.length : Int) := of_decide_eq_true qq14; obtain ⟨ad154, e154, hx154_0, hx154_1⟩ := at_T32 HR0.out 0 p154 q154; cases e154; have qi154 : (0 < l0.length) = True := eq_true (by omega); (try rw [show ((0 : Int)).toNat = 0 from rfl] at hx154_0); (try rw [show 0 * 2 = 0 from rfl] at hx154_0); (try rw [Addr.add_zero'] at hx154_0); (try rw [show ((0 : Int)).toNat = 0 from rfl] at hx154_1); (try rw [show 0 * 2 = 0 from rfl] at hx154_1); (try rw [Addr.add_zero'] at hx154_1); replace hx154_0 := (HB.out.cell (World.block_lt_of_cell? w _ hx154_0)).trans hx154_0; replace hx154_1 := (HB.out.cell (World.block_lt_of_cell? w _ hx154_1)).trans hx154_1; replace p154 := eq_true p154; replace q154 := eq_true q154) | ((with_reducible refine gate_dst (N := 13) rfl ?_); refine Kd.R_lit k32 _ 32 ?hg (N := 13) ?hd (xs := ([(⟨(rd_T32 l0 0).f0, (rd_T32 l0 0).f1⟩ : S32)] : List (S32))) (inner := [.int .i64 ((rd_T32 l0 0).f0), .int .i64 ((rd_T32 l0 0).f1)]) (ok := fun _ => True) (okp := fun _ => True) ?hr ?hp (fun _ hk => hk) trivial (Below.refl _ _) (Nat.le_refl _) (by simp) ?_; (case hd => rfl); (case hg => rfl); (case hr => exact qq22); (case hp => exact (Reps.c2 (show Kd.M k32 _ _ _ (⟨(rd_T32 l0 0).f0, (rd_T32 l0 0).f1⟩ : S32) [.int .i64 ((rd_T32 l0 0).f0), .int .i64 ((rd_T32 l0 0).f1)] from (k32_mkM _ _ _ (⟨(rd_T32 l0 0).f0, (rd_T32 l0 0).f1⟩ : S32) )) (Reps.none _ _))); intro v156 w6 ho7 hb hg_ hnew_; clear hg_ hnew_; (first | rw [← Ny155.out] at ho7 | (simp only [Int.reduceToNat] at ho7; rw [← Ny155.out] at ho7)); have n0_ := Aside0.mk (Kd.R_lower ho7 (below_size qq1)); have n1_ := Aside0.mk (below_step qq1 hb); clear HB; have HO157 := n0_; have HB := n1_; clear n0_ n1_; clear hb ho7))
   go_loopg [4, 5] k (fun kq v4 v5 w' => ∃ (x4_1 : List (S32)) (x5_1 : Int), v5 = .int .i64 x5_1 ∧ Aside0 (spec_PolyBack.l0 kq l0 x4_1 x5_1 = some (r1, r2)) ∧ Aside0 (kq ≤ k) ∧ Aside0 (Kd.R k32 32 w' w.heap.size (fun _ => True) v4 x4_1) ∧ Aside0 (Below w.heap.size w w'))
   case atStart => exact ⟨(y155), (wrap64 ((l0.length : Int) - 1)), qq25, H', ⟨Nat.le_refl _⟩, ⟨qq2 HO157.out⟩, ⟨qq1⟩⟩
   case round =>
    clear H'
    try clear p1
    try clear q1
    try clear hx1
    try clear qi1
    try clear c2
    try clear p2
    try clear c3
    try clear c4
    try clear c4b0
    try clear c4b1
    try clear p6
    try clear c7
    try clear hx154_0
    try clear hx154_1
    try clear p154
    try clear q154
    obtain ⟨x4_1, x5_1, rfl, HA, HK1, HO_4, HB⟩ := hrel
    cases gk with
    | zero => exact absurd HA.out (by simp [spec_PolyBack.l0])
    | succ k1 =>
     have H := HA.out
     clear HA
     simp only [spec_PolyBack.l0] at H
     by_cases c8 : x5_1 > 0
     ·rw [if_pos c8] at H
      have c8b0 : decide (0 < x5_1) = true := decide_eq_true c8
      clear c8
      by_cases c9 : 0 ≤ x5_1
      ·rw [if_pos c9] at H
       have c9b0 : decide (0 ≤ x5_1) = true := decide_eq_true c9
       clear c9
       by_cases c10 : x5_1 < (l0.length : Int)
       ·rw [if_pos c10] at H
        have c10b0 : decide (x5_1 < (l0.length : Int)) = true := decide_eq_true c10
        clear c10
        by_cases c11 : x4_1.length < 8796093022208
        ·rw [if_pos c11] at H
         have LMc11 := Aside0.mk c11
         clear c11
         obtain ⟨y159, hy159⟩ : ∃ y_ : List (S32), y_ = (x4_1 ++ [(⟨(rd_T32 l0 x5_1).f0, (rd_T32 l0 x5_1).f1⟩ : S32)]) := ⟨_, rfl⟩
         replace H : (spec_PolyBack.l0 k1 l0 y159 (wrap64 (x5_1 - 1))) = some (r1, r2) := by first | (rw [hy159]; with_reducible exact H) | (have H2_ := (Option.bind_some _ _).symm.trans H; rw [hy159]; with_reducible exact H2_) | (have H2_ := (Option.bind_some _ _).symm.trans H; with_reducible exact H2_) | with_reducible exact H | (rw [hy159]; exact H) | exact H
         have Ny159 := Aside0.mk hy159
         clear hy159
         have H' := Aside0.mk H
         clear H
         have p158 : 0 ≤ (x5_1 : Int) := of_decide_eq_true qq14
         have q158 : x5_1 < (l0.length : Int) := of_decide_eq_true qq14
         obtain ⟨ad158, e158, hx158_0, hx158_1⟩ := at_T32 HR0.out x5_1 p158 q158
         obtain rfl : ad154 = ad158 := (by injection e158)
         replace hx158_0 := (HB.out.cell (World.block_lt_of_cell? w _ hx158_0)).trans hx158_0
         replace hx158_1 := (HB.out.cell (World.block_lt_of_cell? w _ hx158_1)).trans hx158_1
         replace p158 := eq_true p158
         replace q158 := eq_true q158
         go_wp2_with (first | ((with_reducible refine gate_builtin (b := .append) (xs := #[.tmp 21, .tmp 26]) rfl ?_); at_builtin; refine Kd.R_append k32 (w0 := w) w.heap.size rfl (.tmp 21) (.tmp 26) 23 32 (.agg #[(.int .i64 0), (.int .i64 0)]) 16 rfl Try.underlying23 info32 rfl (by decide) (by omega) u4 x4_1 (⟨(rd_T32 l0 x5_1).f0, (rd_T32 l0 x5_1).f1⟩ : S32) [.int .i64 ((rd_T32 l0 x5_1).f0), .int .i64 ((rd_T32 l0 x5_1).f1)] (fun _ => True) (fun _ => False) rfl rfl ?aP (fun _ hk => hk.elim) ?aF ?aO ?aB ?aS ?aL ?_; (case aP => exact k32_mkM _ _ _ (⟨(rd_T32 l0 x5_1).f0, (rd_T32 l0 x5_1).f1⟩ : S32)); (case aB => exact qq1); (case aF => exact qq87); (case aO => exact (qq2 HO_4.out)); (case aS => exact (below_size qq1)); (case aL => have := LMc11.out; omega); intro v160 w12 ho hb hg hat; rw [← Ny159.out] at ho; have n0_ := Aside0.mk (hb); have n1_ := Aside0.mk (ho); clear HB; clear HO_4; have HB := n0_; have HO161 := n1_; clear n0_ n1_; clear ho hb hg hat))
         go_roundg k1
         case measure => have := HK1.out; omega
         case rel => exact ⟨(y159), (wrap64 (x5_1 - 1)), qq25, H', ⟨by have := HK1.out; omega⟩, ⟨qq2 HO161.out⟩, ⟨qq1⟩⟩
        ·rw [if_neg c11] at H
         exact absurd H (by simp)
       ·rw [if_neg c10] at H
        exact absurd H (by simp)
      ·rw [if_neg c9] at H
       exact absurd H (by simp)
     ·rw [if_neg c8] at H
      have c8b0 : decide (0 < x5_1) = false := decide_eq_false c8
      clear c8
      simp only [Option.some.injEq, Prod.mk.injEq] at H
      obtain ⟨rfl, rfl⟩ := H
      go_wp2
      go_ret2
      exact ⟨_, qq10, qq2 HO_4.out, qq1⟩
  ·rw [if_neg c4] at H
   exact absurd H (by simp)
 ·replace c3 := Bool.eq_false_iff.mpr c3
  subst c3
  have H1 : (some ((([] : List (S32))), false)) = some (r1, r2) := by rw [if_neg (show ¬ (false = true) by decide)] at H; exact H
  clear H
  have H := H1
  clear H1
  obtain ⟨y151, hy151⟩ : ∃ y_ : List (S32), y_ = (([] : List (S32))) := ⟨_, rfl⟩
  replace H : (some (y151, false)) = some (r1, r2) := by first | (rw [hy151]; with_reducible exact H) | (have H2_ := (Option.bind_some _ _).symm.trans H; rw [hy151]; with_reducible exact H2_) | (have H2_ := (Option.bind_some _ _).symm.trans H; with_reducible exact H2_) | with_reducible exact H | (rw [hy151]; exact H) | exact H
  have Ny151 := Aside0.mk hy151
  clear hy151
  simp only [Option.some.injEq, Prod.mk.injEq] at H
  obtain ⟨rfl, rfl⟩ := H
  go_enter Try.func73, Try.ntmps73
  go_wp2_with (first | ((with_reducible refine gate_callee (f := 45) rfl ?_); refine goesL_ (some 7) rfl rfl Try.func45 (by kernel_rfl) rfl #[.slice A0 l0.length c0] rfl qq3 ?_; (with_reducible refine (spec_l31Points.calls k _ _ l0 false _ ?side1 ?side2 A2.out).mono ?_); (case side1 => exact qq53); (case side2 => exact HC0.out); rintro e w13 ⟨rfl, hb⟩; refine ⟨_, rfl, ?_⟩; have n0_ := Aside0.mk (below_step qq1 hb); clear HB; have HB := n0_; clear n0_; (try clear hb); (try clear hb2); (try clear hk); (try clear hi)) | ((with_reducible refine gate_dst (N := 9) rfl ?_); refine Kd.R_lit k32 _ 32 ?hg (N := 9) ?hd (xs := ([] : List (S32))) (inner := []) (ok := fun _ => True) (okp := fun _ => True) ?hr ?hp (fun _ hk => hk) trivial (Below.refl _ _) (Nat.le_refl _) (by simp) ?_; (case hd => rfl); (case hg => rfl); (case hr => exact qq22); (case hp => exact (Reps.none _ _)); intro v152 w14 ho15 hb hg_ hnew_; clear hg_ hnew_; (first | rw [← Ny151.out] at ho15 | (simp only [Int.reduceToNat] at ho15; rw [← Ny151.out] at ho15)); have n0_ := Aside0.mk (Kd.R_lower ho15 (below_size qq1)); have n1_ := Aside0.mk (below_step qq1 hb); clear HB; have HO153 := n0_; have HB := n1_; clear n0_ n1_; clear hb ho15))
  go_ret2
  exact ⟨_, qq10, qq2 HO153.out, qq1⟩

end Go.Proofs.Ytgdhgncdpmalcaa.Q
namespace Go.Proofs.Ytgdhgncdpmalcaa.Q
open Go.RowKit Go.Proofs.YtgdhgncdpmalcaaW.PrintWords Go.Proofs.YtgdhgncdpmalcaaW.PrintLast Go.Proofs.YtgdhgncdpmalcaaW.PrintMore
attribute [local go_sem] max2_int min2_int max_two min_two max_three min_three max_four min_four
set_option linter.unusedVariables false
set_option linter.unusedSimpArgs false

/-! ### spec_l92Poly: function 41 -/
def spec_l92Poly.l0 : Nat → List (S32) → Int → Int → List Int → Int → Option ((List (S32)) × Int)
 | 0, _, _, _, _, _ => none
 | k + 1, x3, x4, x5, x1000, x1001 => if x5 < x4 then ((spec_l91Point.f k x1000 x1001).bind fun bt169 => (if x3.length < 8796093022208 then (spec_l92Poly.l0 k (x3 ++ [(⟨bt169.1, bt169.2.1⟩ : S32)]) x4 (wrap64 (x5 + 1)) x1000 bt169.2.2) else (none))) else (some (x3, x1001))
def spec_l92Poly.f (k : Nat) (s0_0 : List Int) (s0_1 : Int) : Option ((List (S32)) × Int) := (spec_l6Rd_pick.f k s0_0 s0_1 8).bind fun bt162 => (if bt162.1 = 0 then ((spec_l6Rd_pick.f k s0_0 bt162.2 6).bind fun bt167 => (spec_l92Poly.l0 k (([] : List (S32))) bt167.1 0 s0_0 bt167.2)) else (if bt162.1 = 1 then ((spec_l92Box.f k s0_0 bt162.2).bind fun bt175 => (some (bt175.1, bt175.2))) else (if bt162.1 = 2 then ((spec_l92Box.f k s0_0 bt162.2).bind fun bt179 => (some (bt179.1, bt179.2))) else (if bt162.1 = 3 then ((spec_l92Box.f k s0_0 bt162.2).bind fun bt183 => (some (bt183.1, bt183.2))) else ((spec_l92Star.f k s0_0 bt162.2).bind fun bt187 => ((spec_l6Rd_pick.f k s0_0 bt187.2 5).bind fun bt191 => (if bt191.1 = 0 then ((spec_PolyBack.f k bt187.1).bind fun bt193 => (some (bt193.1, bt191.2))) else (some (bt187.1, bt191.2)))))))))
set_option maxHeartbeats 8000000 in
set_option maxRecDepth 100000 in
theorem spec_l92Poly.calls (k : Nat) (g : Nat) (s0_0 : List Int) (s0_1 : Int) (r1 : List (S32)) (r2 : Int) (w0 w : World) (hI : IsS81 w0 w g s0_0 s0_1) (hB : Below w0.heap.size w0 w) (h : spec_l92Poly.f k s0_0 s0_1 = some (r1, r2)) :
  Calls Try.prog 41 #[.pointer (some ⟨g, 0, none⟩)] w fun e w' => ∃ v0_ : Value, e = .returned (v0_) ∧ Kd.Q k32 32 w' w.heap.size (fun _ => True) v0_ r1 ∧ IsS81 w0 w' g s0_0 r2 ∧ Below w0.heap.size w0 w' ∧ KeepBut w w' g none := by
 have HI0 := Aside0.mk hI
 have HK := Aside0.mk (KeepBut.refl w g none)
 have HL := Aside0.mk hB.size
 clear hI
 have HW0 := Aside0.mk hB.size
 have HB := Aside0.mk hB
 clear hB
 have H : ((spec_l6Rd_pick.f k s0_0 s0_1 8).bind fun bt162 => (if bt162.1 = 0 then ((spec_l6Rd_pick.f k s0_0 bt162.2 6).bind fun bt167 => (spec_l92Poly.l0 k (([] : List (S32))) bt167.1 0 s0_0 bt167.2)) else (if bt162.1 = 1 then ((spec_l92Box.f k s0_0 bt162.2).bind fun bt175 => (some (bt175.1, bt175.2))) else (if bt162.1 = 2 then ((spec_l92Box.f k s0_0 bt162.2).bind fun bt179 => (some (bt179.1, bt179.2))) else (if bt162.1 = 3 then ((spec_l92Box.f k s0_0 bt162.2).bind fun bt183 => (some (bt183.1, bt183.2))) else ((spec_l92Star.f k s0_0 bt162.2).bind fun bt187 => ((spec_l6Rd_pick.f k s0_0 bt187.2 5).bind fun bt191 => (if bt191.1 = 0 then ((spec_PolyBack.f k bt187.1).bind fun bt193 => (some (bt193.1, bt191.2))) else (some (bt187.1, bt191.2)))))))))) = some (r1, r2) := h
 clear h
 replace H := Option.bind_eq_some_iff.mp H
 obtain ⟨⟨t162, t163⟩, A20, H⟩ := H
 replace H : (if t162 = 0 then ((spec_l6Rd_pick.f k s0_0 t163 6).bind fun bt167 => (spec_l92Poly.l0 k (([] : List (S32))) bt167.1 0 s0_0 bt167.2)) else (if t162 = 1 then ((spec_l92Box.f k s0_0 t163).bind fun bt175 => (some (bt175.1, bt175.2))) else (if t162 = 2 then ((spec_l92Box.f k s0_0 t163).bind fun bt179 => (some (bt179.1, bt179.2))) else (if t162 = 3 then ((spec_l92Box.f k s0_0 t163).bind fun bt183 => (some (bt183.1, bt183.2))) else ((spec_l92Star.f k s0_0 t163).bind fun bt187 => ((spec_l6Rd_pick.f k s0_0 bt187.2 5).bind fun bt191 => (if bt191.1 = 0 then ((spec_PolyBack.f k bt187.1).bind fun bt193 => (some (bt193.1, bt191.2))) else (some (bt187.1, bt191.2))))))))) = some (r1, r2) := H
 have A2 := Aside0.mk A20
 clear A20
 by_cases c3 : t162 = 0
 ·rw [if_pos c3] at H
  have c3b0 : (t162 == 0) = true := beq_iff_eq.mpr c3
  have c3b1 : (t162 != 0) = false := bne_eq_false_iff_eq.mpr c3
  clear c3
  obtain ⟨y164, hy164⟩ : ∃ y_ : List (S32), y_ = (([] : List (S32))) := ⟨_, rfl⟩
  replace H : ((spec_l6Rd_pick.f k s0_0 t163 6).bind fun bt167 => (spec_l92Poly.l0 k y164 bt167.1 0 s0_0 bt167.2)) = some (r1, r2) := by first | (rw [hy164]; with_reducible exact H) | (have H2_ := (Option.bind_some _ _).symm.trans H; rw [hy164]; with_reducible exact H2_) | (have H2_ := (Option.bind_some _ _).symm.trans H; with_reducible exact H2_) | with_reducible exact H | (rw [hy164]; exact H) | exact H
  have Ny164 := Aside0.mk hy164
  clear hy164
  replace H := Option.bind_eq_some_iff.mp H
  obtain ⟨⟨t167, t168⟩, A40, H⟩ := H
  replace H : (spec_l92Poly.l0 k y164 t167 0 s0_0 t168) = some (r1, r2) := H
  have A4 := Aside0.mk A40
  clear A40
  have H' := Aside0.mk H
  clear H
  go_enter Try.func41, Try.ntmps41
  go_wp2_with (first | ((with_reducible refine gate_callee (f := 48) rfl ?_); refine goesL_ (some 10) rfl rfl Try.func48 (by kernel_rfl) rfl #[.pointer (some ⟨g, 0, none⟩), .int .i64 8] rfl qq3 ?_; (with_reducible refine (spec_l6Rd_pick.calls k g s0_0 s0_1 8 t162 t163 w0 _ ?side1 ?side2 A2.out).mono ?_); (case side1 => exact qq8); (case side2 => exact qq6); rintro e w5 ⟨rfl, hi, hb, hk⟩; refine ⟨_, rfl, ?_⟩; have n0_ := Aside0.mk (KeepBut.trans qq4 hk (.inl rfl)); have n1_ := Aside0.mk (hb); have n2_ := Aside0.mk (hi); clear HK; clear HB; clear HI0; have HK := n0_; have HB := n1_; have HI0 := n2_; clear n0_ n1_ n2_; (try clear hb); (try clear hb2); (try clear hk); (try clear hi)) | ((with_reducible refine gate_dst (N := 13) rfl ?_); refine Kd.R_lit k32 _ 32 ?hg (N := 13) ?hd (xs := ([] : List (S32))) (inner := []) (ok := fun _ => True) (okp := fun _ => True) ?hr ?hp (fun _ hk => hk) trivial (Below.refl _ _) (Nat.le_refl _) (by simp) ?_; (case hd => rfl); (case hg => rfl); (case hr => exact qq22); (case hp => exact (Reps.none _ _)); intro v165 w6 ho7 hb hg_ hnew_; clear hg_ hnew_; (first | rw [← Ny164.out] at ho7 | (simp only [Int.reduceToNat] at ho7; rw [← Ny164.out] at ho7)); have n0_ := Aside0.mk (Kd.R_lower ho7 (keep_size (w := w) (g := g) (row := none) qq4)); have n1_ := Aside0.mk (IsS81.below qq8 hb); have n2_ := Aside0.mk (KeepBut.trans qq4 (KeepBut.of_below hb g none) (.inl rfl)); have n3_ := Aside0.mk (below_step qq6 hb); clear HI0; clear HK; clear HB; have HO166 := n0_; have HI0 := n1_; have HK := n2_; have HB := n3_; clear n0_ n1_ n2_ n3_; clear hb ho7) | ((with_reducible refine gate_callee (f := 48) rfl ?_); refine goesL_ (some 15) rfl rfl Try.func48 (by kernel_rfl) rfl #[.pointer (some ⟨g, 0, none⟩), .int .i64 6] rfl qq3 ?_; (with_reducible refine (spec_l6Rd_pick.calls k g s0_0 t163 6 t167 t168 w0 _ ?side1 ?side2 A4.out).mono ?_); (case side1 => exact qq8); (case side2 => exact qq6); rintro e w8 ⟨rfl, hi, hb, hk⟩; refine ⟨_, rfl, ?_⟩; have n0_ := Aside0.mk (Kd.R_mono (Kd.R_keep (IsS81.apart (show IsS81 w0 _ g s0_0 t163 from by repeat (first | (with_reducible first | exact HI0.out | apply IsS81.alloc | apply IsS81.drewN | apply IsS81.drew | apply IsS81.set_1) | exact HI0.out)) (qq2 HO166.out) (by decide)) hk (fun _ h => h.2)) (fun _ h => h.1)); have n1_ := Aside0.mk (KeepBut.trans qq4 hk (.inl rfl)); have n2_ := Aside0.mk (hb); have n3_ := Aside0.mk (hi); clear HO166; clear HK; clear HB; clear HI0; have HO166 := n0_; have HK := n1_; have HB := n2_; have HI0 := n3_; clear n0_ n1_ n2_ n3_; (try clear hb); (try clear hb2); (try clear hk); (try clear hi)))
  go_loopg [3, 5] k (fun kq v3 v5 w' => ∃ (x3_1 : List (S32)) (x5_1 : Int) (x1001_1 : Int), v5 = .int .i64 x5_1 ∧ Aside0 (spec_l92Poly.l0 kq x3_1 t167 x5_1 s0_0 x1001_1 = some (r1, r2)) ∧ Aside0 (kq ≤ k) ∧ Aside0 (Kd.R k32 32 w' w.heap.size (fun _ => True) v3 x3_1) ∧ Aside0 (IsS81 w0 w' g s0_0 x1001_1) ∧ Aside0 (KeepBut w w' g none) ∧ Aside0 (Below w0.heap.size w0 w'))
  case atStart => exact ⟨(y164), (0), (t168), qq25, H', ⟨Nat.le_refl _⟩, ⟨qq2 HO166.out⟩, ⟨qq8⟩, ⟨qq4⟩, ⟨qq6⟩⟩
  case round =>
   clear H'
   try clear p2
   try clear c3
   try clear c3b0
   try clear c3b1
   try clear c4
   obtain ⟨x3_1, x5_1, x1001_1, rfl, HA, HK1, HO_3, HI0, HK, HB⟩ := hrel
   cases gk with
   | zero => exact absurd HA.out (by simp [spec_l92Poly.l0])
   | succ k1 =>
    have H := HA.out
    clear HA
    simp only [spec_l92Poly.l0] at H
    by_cases c9 : x5_1 < t167
    ·rw [if_pos c9] at H
     have c9b0 : decide (x5_1 < t167) = true := decide_eq_true c9
     clear c9
     replace H := Option.bind_eq_some_iff.mp H
     obtain ⟨⟨t169, t170, t171⟩, A100, H⟩ := H
     replace H : (if x3_1.length < 8796093022208 then (spec_l92Poly.l0 k1 (x3_1 ++ [(⟨t169, t170⟩ : S32)]) t167 (wrap64 (x5_1 + 1)) s0_0 t171) else (none)) = some (r1, r2) := H
     have A10 := Aside0.mk A100
     clear A100
     by_cases c11 : x3_1.length < 8796093022208
     ·rw [if_pos c11] at H
      have LMc11 := Aside0.mk c11
      clear c11
      obtain ⟨y172, hy172⟩ : ∃ y_ : List (S32), y_ = (x3_1 ++ [(⟨t169, t170⟩ : S32)]) := ⟨_, rfl⟩
      replace H : (spec_l92Poly.l0 k1 y172 t167 (wrap64 (x5_1 + 1)) s0_0 t171) = some (r1, r2) := by first | (rw [hy172]; with_reducible exact H) | (have H2_ := (Option.bind_some _ _).symm.trans H; rw [hy172]; with_reducible exact H2_) | (have H2_ := (Option.bind_some _ _).symm.trans H; with_reducible exact H2_) | with_reducible exact H | (rw [hy172]; exact H) | exact H
      have Ny172 := Aside0.mk hy172
      clear hy172
      have H' := Aside0.mk H
      clear H
      go_wp2_with (first | ((with_reducible refine gate_callee (f := 55) rfl ?_); refine goesL_ (some 23) rfl rfl Try.func55 (by kernel_rfl) rfl #[.pointer (some ⟨g, 0, none⟩)] rfl qq3 ?_; (with_reducible refine (spec_l91Point.calls k1 g s0_0 x1001_1 t169 t170 t171 w0 _ ?side1 ?side2 A10.out).mono ?_); (case side1 => exact qq8); (case side2 => exact qq6); rintro e w12 ⟨rfl, hi, hb, hk⟩; refine ⟨_, rfl, ?_⟩; have n0_ := Aside0.mk (Kd.R_mono (Kd.R_keep (IsS81.apart (show IsS81 w0 _ g s0_0 x1001_1 from by repeat (first | (with_reducible first | exact HI0.out | apply IsS81.alloc | apply IsS81.drewN | apply IsS81.drew | apply IsS81.set_1) | exact HI0.out)) (qq2 HO_3.out) (by decide)) hk (fun _ h => h.2)) (fun _ h => h.1)); have n1_ := Aside0.mk (KeepBut.trans qq4 hk (.inl rfl)); have n2_ := Aside0.mk (hb); have n3_ := Aside0.mk (hi); clear HO_3; clear HK; clear HB; clear HI0; have HO_3 := n0_; have HK := n1_; have HB := n2_; have HI0 := n3_; clear n0_ n1_ n2_ n3_; (try clear hb); (try clear hb2); (try clear hk); (try clear hi)) | ((with_reducible refine gate_builtin (b := .append) (xs := #[.tmp 21, .tmp 24]) rfl ?_); at_builtin; refine Kd.R_append k32 w.heap.size rfl (.tmp 21) (.tmp 24) 23 32 (.agg #[(.int .i64 0), (.int .i64 0)]) 16 rfl Try.underlying23 info32 rfl (by decide) (by omega) u3 x3_1 (⟨t169, t170⟩ : S32) [.int .i64 t169, .int .i64 t170] (fun _ => True) (fun _ => False) rfl rfl ?aP (fun _ hk => hk.elim) ?aF ?aO (Below.refl _ _) ?aS ?aL ?_; (case aP => exact k32_mkM _ _ _ (⟨t169, t170⟩ : S32)); (case aF => exact qq87); (case aO => exact (qq2 HO_3.out)); (case aS => exact qq72); (case aL => have := LMc11.out; omega); intro v173 w13 ho hb hg hat; rw [← Ny172.out] at ho; have n0_ := Aside0.mk (IsS81.grown qq8 hg (IsS81.own_ne HI0.out HO_3.out (by decide))); have n1_ := Aside0.mk (below_weaken qq6 HL.out hb); have n2_ := Aside0.mk (KeepBut.trans qq4 (KeepBut.of_grown hg g) (Kd.R_base2 HO_3.out)); have n3_ := Aside0.mk (ho); clear HI0; clear HB; clear HK; clear HO_3; have HI0 := n0_; have HB := n1_; have HK := n2_; have HO174 := n3_; clear n0_ n1_ n2_ n3_; clear ho hb hg hat))
      go_roundg k1
      case measure => have := HK1.out; omega
      case rel => exact ⟨(y172), (wrap64 (x5_1 + 1)), (t171), qq25, H', ⟨by have := HK1.out; omega⟩, ⟨qq2 HO174.out⟩, ⟨qq8⟩, ⟨qq4⟩, ⟨qq6⟩⟩
     ·rw [if_neg c11] at H
      exact absurd H (by simp)
    ·rw [if_neg c9] at H
     have c9b0 : decide (x5_1 < t167) = false := decide_eq_false c9
     clear c9
     simp only [Option.some.injEq, Prod.mk.injEq] at H
     obtain ⟨rfl, rfl⟩ := H
     go_wp2
     go_ret
     exact ⟨_, qq10, Kd.Q_of_R (qq2 HO_3.out), qq8, qq6, qq4⟩
 ·rw [if_neg c3] at H
  have c3b0 : (t162 == 0) = false := beq_eq_false_iff_ne.mpr c3
  have c3b1 : (t162 != 0) = true := bne_iff_ne.mpr c3
  by_cases c14 : t162 = 1
  ·rw [if_pos c14] at H
   have c14b0 : (t162 == 1) = true := beq_iff_eq.mpr c14
   have c14b1 : (t162 != 1) = false := bne_eq_false_iff_eq.mpr c14
   clear c14
   replace H := Option.bind_eq_some_iff.mp H
   obtain ⟨⟨t175, t178⟩, A150, H⟩ := H
   replace H : (some (t175, t178)) = some (r1, r2) := H
   have A15 := Aside0.mk A150
   clear A150
   simp only [Option.some.injEq, Prod.mk.injEq] at H
   obtain ⟨rfl, rfl⟩ := H
   go_enter Try.func41, Try.ntmps41
   go_wp2_with (first | ((with_reducible refine gate_callee (f := 48) rfl ?_); refine goesL_ (some 10) rfl rfl Try.func48 (by kernel_rfl) rfl #[.pointer (some ⟨g, 0, none⟩), .int .i64 8] rfl qq3 ?_; (with_reducible refine (spec_l6Rd_pick.calls k g s0_0 s0_1 8 t162 t163 w0 _ ?side1 ?side2 A2.out).mono ?_); (case side1 => exact qq8); (case side2 => exact qq6); rintro e w16 ⟨rfl, hi, hb, hk⟩; refine ⟨_, rfl, ?_⟩; have n0_ := Aside0.mk (KeepBut.trans qq4 hk (.inl rfl)); have n1_ := Aside0.mk (hb); have n2_ := Aside0.mk (hi); clear HK; clear HB; clear HI0; have HK := n0_; have HB := n1_; have HI0 := n2_; clear n0_ n1_ n2_; (try clear hb); (try clear hb2); (try clear hk); (try clear hi)) | ((with_reducible refine gate_callee (f := 59) rfl ?_); refine goesL_ (some 32) rfl rfl Try.func59 (by kernel_rfl) rfl #[.pointer (some ⟨g, 0, none⟩)] rfl qq3 ?_; (with_reducible refine (spec_l92Box.calls k g s0_0 t163 t175 t178 w0 _ ?side1 ?side2 A15.out).mono ?_); (case side1 => exact qq8); (case side2 => exact qq6); rintro e w17 ⟨v176, rfl, ho0, hi, hb, hk⟩; refine ⟨_, rfl, ?_⟩; have n0_ := Aside0.mk (Kd.Q_lower ho0 (keep_size (w := w) (g := g) (row := none) qq4)); have n1_ := Aside0.mk (KeepBut.trans qq4 hk (.inl rfl)); have n2_ := Aside0.mk (hb); have n3_ := Aside0.mk (hi); clear HK; clear HB; clear HI0; have HO177 := n0_; have HK := n1_; have HB := n2_; have HI0 := n3_; clear n0_ n1_ n2_ n3_; (try clear hb); (try clear hb2); (try clear hk); (try clear hi); (try clear ho0)))
   go_ret
   exact ⟨_, qq10, qq16 HO177.out, qq8, qq6, qq4⟩
  ·rw [if_neg c14] at H
   have c14b0 : (t162 == 1) = false := beq_eq_false_iff_ne.mpr c14
   have c14b1 : (t162 != 1) = true := bne_iff_ne.mpr c14
   by_cases c18 : t162 = 2
   ·rw [if_pos c18] at H
    have c18b0 : (t162 == 2) = true := beq_iff_eq.mpr c18
    have c18b1 : (t162 != 2) = false := bne_eq_false_iff_eq.mpr c18
    clear c18
    replace H := Option.bind_eq_some_iff.mp H
    obtain ⟨⟨t179, t182⟩, A190, H⟩ := H
    replace H : (some (t179, t182)) = some (r1, r2) := H
    have A19 := Aside0.mk A190
    clear A190
    simp only [Option.some.injEq, Prod.mk.injEq] at H
    obtain ⟨rfl, rfl⟩ := H
    go_enter Try.func41, Try.ntmps41
    go_wp2_with (first | ((with_reducible refine gate_callee (f := 48) rfl ?_); refine goesL_ (some 10) rfl rfl Try.func48 (by kernel_rfl) rfl #[.pointer (some ⟨g, 0, none⟩), .int .i64 8] rfl qq3 ?_; (with_reducible refine (spec_l6Rd_pick.calls k g s0_0 s0_1 8 t162 t163 w0 _ ?side1 ?side2 A2.out).mono ?_); (case side1 => exact qq8); (case side2 => exact qq6); rintro e w20 ⟨rfl, hi, hb, hk⟩; refine ⟨_, rfl, ?_⟩; have n0_ := Aside0.mk (KeepBut.trans qq4 hk (.inl rfl)); have n1_ := Aside0.mk (hb); have n2_ := Aside0.mk (hi); clear HK; clear HB; clear HI0; have HK := n0_; have HB := n1_; have HI0 := n2_; clear n0_ n1_ n2_; (try clear hb); (try clear hb2); (try clear hk); (try clear hi)) | ((with_reducible refine gate_callee (f := 59) rfl ?_); refine goesL_ (some 32) rfl rfl Try.func59 (by kernel_rfl) rfl #[.pointer (some ⟨g, 0, none⟩)] rfl qq3 ?_; (with_reducible refine (spec_l92Box.calls k g s0_0 t163 t179 t182 w0 _ ?side1 ?side2 A19.out).mono ?_); (case side1 => exact qq8); (case side2 => exact qq6); rintro e w21 ⟨v180, rfl, ho0, hi, hb, hk⟩; refine ⟨_, rfl, ?_⟩; have n0_ := Aside0.mk (Kd.Q_lower ho0 (keep_size (w := w) (g := g) (row := none) qq4)); have n1_ := Aside0.mk (KeepBut.trans qq4 hk (.inl rfl)); have n2_ := Aside0.mk (hb); have n3_ := Aside0.mk (hi); clear HK; clear HB; clear HI0; have HO181 := n0_; have HK := n1_; have HB := n2_; have HI0 := n3_; clear n0_ n1_ n2_ n3_; (try clear hb); (try clear hb2); (try clear hk); (try clear hi); (try clear ho0)))
    go_ret
    exact ⟨_, qq10, qq16 HO181.out, qq8, qq6, qq4⟩
   ·rw [if_neg c18] at H
    have c18b0 : (t162 == 2) = false := beq_eq_false_iff_ne.mpr c18
    have c18b1 : (t162 != 2) = true := bne_iff_ne.mpr c18
    by_cases c22 : t162 = 3
    ·rw [if_pos c22] at H
     have c22b0 : (t162 == 3) = true := beq_iff_eq.mpr c22
     have c22b1 : (t162 != 3) = false := bne_eq_false_iff_eq.mpr c22
     clear c22
     replace H := Option.bind_eq_some_iff.mp H
     obtain ⟨⟨t183, t186⟩, A230, H⟩ := H
     replace H : (some (t183, t186)) = some (r1, r2) := H
     have A23 := Aside0.mk A230
     clear A230
     simp only [Option.some.injEq, Prod.mk.injEq] at H
     obtain ⟨rfl, rfl⟩ := H
     go_enter Try.func41, Try.ntmps41
     go_wp2_with (first | ((with_reducible refine gate_callee (f := 48) rfl ?_); refine goesL_ (some 10) rfl rfl Try.func48 (by kernel_rfl) rfl #[.pointer (some ⟨g, 0, none⟩), .int .i64 8] rfl qq3 ?_; (with_reducible refine (spec_l6Rd_pick.calls k g s0_0 s0_1 8 t162 t163 w0 _ ?side1 ?side2 A2.out).mono ?_); (case side1 => exact qq8); (case side2 => exact qq6); rintro e w24 ⟨rfl, hi, hb, hk⟩; refine ⟨_, rfl, ?_⟩; have n0_ := Aside0.mk (KeepBut.trans qq4 hk (.inl rfl)); have n1_ := Aside0.mk (hb); have n2_ := Aside0.mk (hi); clear HK; clear HB; clear HI0; have HK := n0_; have HB := n1_; have HI0 := n2_; clear n0_ n1_ n2_; (try clear hb); (try clear hb2); (try clear hk); (try clear hi)) | ((with_reducible refine gate_callee (f := 59) rfl ?_); refine goesL_ (some 32) rfl rfl Try.func59 (by kernel_rfl) rfl #[.pointer (some ⟨g, 0, none⟩)] rfl qq3 ?_; (with_reducible refine (spec_l92Box.calls k g s0_0 t163 t183 t186 w0 _ ?side1 ?side2 A23.out).mono ?_); (case side1 => exact qq8); (case side2 => exact qq6); rintro e w25 ⟨v184, rfl, ho0, hi, hb, hk⟩; refine ⟨_, rfl, ?_⟩; have n0_ := Aside0.mk (Kd.Q_lower ho0 (keep_size (w := w) (g := g) (row := none) qq4)); have n1_ := Aside0.mk (KeepBut.trans qq4 hk (.inl rfl)); have n2_ := Aside0.mk (hb); have n3_ := Aside0.mk (hi); clear HK; clear HB; clear HI0; have HO185 := n0_; have HK := n1_; have HB := n2_; have HI0 := n3_; clear n0_ n1_ n2_ n3_; (try clear hb); (try clear hb2); (try clear hk); (try clear hi); (try clear ho0)))
     go_ret
     exact ⟨_, qq10, qq16 HO185.out, qq8, qq6, qq4⟩
    ·rw [if_neg c22] at H
     have c22b0 : (t162 == 3) = false := beq_eq_false_iff_ne.mpr c22
     have c22b1 : (t162 != 3) = true := bne_iff_ne.mpr c22
     replace H := Option.bind_eq_some_iff.mp H
     obtain ⟨⟨t187, t190⟩, A260, H⟩ := H
     replace H : ((spec_l6Rd_pick.f k s0_0 t190 5).bind fun bt191 => (if bt191.1 = 0 then ((spec_PolyBack.f k t187).bind fun bt193 => (some (bt193.1, bt191.2))) else (some (t187, bt191.2)))) = some (r1, r2) := H
     have A26 := Aside0.mk A260
     clear A260
     replace H := Option.bind_eq_some_iff.mp H
     obtain ⟨⟨t191, t192⟩, A270, H⟩ := H
     replace H : (if t191 = 0 then ((spec_PolyBack.f k t187).bind fun bt193 => (some (bt193.1, t192))) else (some (t187, t192))) = some (r1, r2) := H
     have A27 := Aside0.mk A270
     clear A270
     by_cases c28 : t191 = 0
     ·rw [if_pos c28] at H
      have c28b0 : (t191 == 0) = true := beq_iff_eq.mpr c28
      have c28b1 : (t191 != 0) = false := bne_eq_false_iff_eq.mpr c28
      clear c28
      replace H := Option.bind_eq_some_iff.mp H
      obtain ⟨⟨t193, t194⟩, A290, H⟩ := H
      replace H : (some (t193, t192)) = some (r1, r2) := H
      have A29 := Aside0.mk A290
      clear A290
      simp only [Option.some.injEq, Prod.mk.injEq] at H
      obtain ⟨rfl, rfl⟩ := H
      go_enter Try.func41, Try.ntmps41
      go_wp2_with (first | ((with_reducible refine gate_callee (f := 48) rfl ?_); refine goesL_ (some 10) rfl rfl Try.func48 (by kernel_rfl) rfl #[.pointer (some ⟨g, 0, none⟩), .int .i64 8] rfl qq3 ?_; (with_reducible refine (spec_l6Rd_pick.calls k g s0_0 s0_1 8 t162 t163 w0 _ ?side1 ?side2 A2.out).mono ?_); (case side1 => exact qq8); (case side2 => exact qq6); rintro e w30 ⟨rfl, hi, hb, hk⟩; refine ⟨_, rfl, ?_⟩; have n0_ := Aside0.mk (KeepBut.trans qq4 hk (.inl rfl)); have n1_ := Aside0.mk (hb); have n2_ := Aside0.mk (hi); clear HK; clear HB; clear HI0; have HK := n0_; have HB := n1_; have HI0 := n2_; clear n0_ n1_ n2_; (try clear hb); (try clear hb2); (try clear hk); (try clear hi)) | ((with_reducible refine gate_callee (f := 72) rfl ?_); refine goesL_ (some 34) rfl rfl Try.func72 (by kernel_rfl) rfl #[.pointer (some ⟨g, 0, none⟩)] rfl qq3 ?_; (with_reducible refine (spec_l92Star.calls k g s0_0 t163 t187 t190 w0 _ ?side1 ?side2 A26.out).mono ?_); (case side1 => exact qq8); (case side2 => exact qq6); rintro e w31 ⟨v188, rfl, ho0, hi, hb, hk⟩; refine ⟨_, rfl, ?_⟩; have n0_ := Aside0.mk (Kd.R_lower ho0 (keep_size (w := w) (g := g) (row := none) qq4)); have n1_ := Aside0.mk (KeepBut.trans qq4 hk (.inl rfl)); have n2_ := Aside0.mk (hb); have n3_ := Aside0.mk (hi); clear HK; clear HB; clear HI0; have HO189 := n0_; have HK := n1_; have HB := n2_; have HI0 := n3_; clear n0_ n1_ n2_ n3_; (try clear hb); (try clear hb2); (try clear hk); (try clear hi); (try clear ho0)) | ((with_reducible refine gate_callee (f := 48) rfl ?_); refine goesL_ (some 36) rfl rfl Try.func48 (by kernel_rfl) rfl #[.pointer (some ⟨g, 0, none⟩), .int .i64 5] rfl qq3 ?_; (with_reducible refine (spec_l6Rd_pick.calls k g s0_0 t190 5 t191 t192 w0 _ ?side1 ?side2 A27.out).mono ?_); (case side1 => exact qq8); (case side2 => exact qq6); rintro e w32 ⟨rfl, hi, hb, hk⟩; refine ⟨_, rfl, ?_⟩; have n0_ := Aside0.mk (Kd.R_mono (Kd.R_keep (IsS81.apart (show IsS81 w0 _ g s0_0 t190 from by repeat (first | (with_reducible first | exact HI0.out | apply IsS81.alloc | apply IsS81.drewN | apply IsS81.drew | apply IsS81.set_1) | exact HI0.out)) (qq2 HO189.out) (by decide)) hk (fun _ h => h.2)) (fun _ h => h.1)); have n1_ := Aside0.mk (KeepBut.trans qq4 hk (.inl rfl)); have n2_ := Aside0.mk (hb); have n3_ := Aside0.mk (hi); clear HO189; clear HK; clear HB; clear HI0; have HO189 := n0_; have HK := n1_; have HB := n2_; have HI0 := n3_; clear n0_ n1_ n2_ n3_; (try clear hb); (try clear hb2); (try clear hk); (try clear hi); obtain ⟨Ao33, co33, eo33⟩ := Kd.R_slice HO189.out; subst eo33) | ((with_reducible refine gate_callee (f := 73) rfl ?_); refine goesL_ (some 40) rfl rfl Try.func73 (by kernel_rfl) rfl #[.slice Ao33 t187.length co33] rfl qq3 ?_; (with_reducible refine (spec_PolyBack.calls k _ _ t187 t193 t194 _ ?side1 ?side2 A29.out).mono ?_); (case side1 => exact qq11 HO189.out); (case side2 => exact qq62 HO189.out); rintro e w34 ⟨v195, rfl, ho0, hb⟩; refine ⟨_, rfl, ?_⟩; have n0_ := Aside0.mk (Kd.R_elder' (qq2 HO189.out) (Kd.R_base ho0) hb); have n1_ := Aside0.mk (Kd.R_lower (Kd.R_new' ho0 (Kd.R_lt (qq2 HO189.out))) (keep_size (w := w) (g := g) (row := none) qq4)); have n2_ := Aside0.mk (IsS81.below qq8 hb); have n3_ := Aside0.mk (KeepBut.trans qq4 (KeepBut.of_below hb g none) (.inl rfl)); have n4_ := Aside0.mk (below_step qq6 hb); clear HO189; clear HI0; clear HK; clear HB; have HO189 := n0_; have HO196 := n1_; have HI0 := n2_; have HK := n3_; have HB := n4_; clear n0_ n1_ n2_ n3_ n4_; (try clear hb); (try clear hb2); (try clear hk); (try clear hi); (try clear ho0)))
      go_ret
      exact ⟨_, qq10, Kd.Q_of_R (qq68 HO196.out), qq8, qq6, qq4⟩
     ·rw [if_neg c28] at H
      have c28b0 : (t191 == 0) = false := beq_eq_false_iff_ne.mpr c28
      have c28b1 : (t191 != 0) = true := bne_iff_ne.mpr c28
      simp only [Option.some.injEq, Prod.mk.injEq] at H
      obtain ⟨rfl, rfl⟩ := H
      go_enter Try.func41, Try.ntmps41
      go_wp2_with (first | ((with_reducible refine gate_callee (f := 48) rfl ?_); refine goesL_ (some 10) rfl rfl Try.func48 (by kernel_rfl) rfl #[.pointer (some ⟨g, 0, none⟩), .int .i64 8] rfl qq3 ?_; (with_reducible refine (spec_l6Rd_pick.calls k g s0_0 s0_1 8 t162 t163 w0 _ ?side1 ?side2 A2.out).mono ?_); (case side1 => exact qq8); (case side2 => exact qq6); rintro e w35 ⟨rfl, hi, hb, hk⟩; refine ⟨_, rfl, ?_⟩; have n0_ := Aside0.mk (KeepBut.trans qq4 hk (.inl rfl)); have n1_ := Aside0.mk (hb); have n2_ := Aside0.mk (hi); clear HK; clear HB; clear HI0; have HK := n0_; have HB := n1_; have HI0 := n2_; clear n0_ n1_ n2_; (try clear hb); (try clear hb2); (try clear hk); (try clear hi)) | ((with_reducible refine gate_callee (f := 72) rfl ?_); refine goesL_ (some 34) rfl rfl Try.func72 (by kernel_rfl) rfl #[.pointer (some ⟨g, 0, none⟩)] rfl qq3 ?_; (with_reducible refine (spec_l92Star.calls k g s0_0 t163 t187 t190 w0 _ ?side1 ?side2 A26.out).mono ?_); (case side1 => exact qq8); (case side2 => exact qq6); rintro e w36 ⟨v188, rfl, ho0, hi, hb, hk⟩; refine ⟨_, rfl, ?_⟩; have n0_ := Aside0.mk (Kd.R_lower ho0 (keep_size (w := w) (g := g) (row := none) qq4)); have n1_ := Aside0.mk (KeepBut.trans qq4 hk (.inl rfl)); have n2_ := Aside0.mk (hb); have n3_ := Aside0.mk (hi); clear HK; clear HB; clear HI0; have HO189 := n0_; have HK := n1_; have HB := n2_; have HI0 := n3_; clear n0_ n1_ n2_ n3_; (try clear hb); (try clear hb2); (try clear hk); (try clear hi); (try clear ho0)) | ((with_reducible refine gate_callee (f := 48) rfl ?_); refine goesL_ (some 36) rfl rfl Try.func48 (by kernel_rfl) rfl #[.pointer (some ⟨g, 0, none⟩), .int .i64 5] rfl qq3 ?_; (with_reducible refine (spec_l6Rd_pick.calls k g s0_0 t190 5 t191 t192 w0 _ ?side1 ?side2 A27.out).mono ?_); (case side1 => exact qq8); (case side2 => exact qq6); rintro e w37 ⟨rfl, hi, hb, hk⟩; refine ⟨_, rfl, ?_⟩; have n0_ := Aside0.mk (Kd.R_mono (Kd.R_keep (IsS81.apart (show IsS81 w0 _ g s0_0 t190 from by repeat (first | (with_reducible first | exact HI0.out | apply IsS81.alloc | apply IsS81.drewN | apply IsS81.drew | apply IsS81.set_1) | exact HI0.out)) (qq2 HO189.out) (by decide)) hk (fun _ h => h.2)) (fun _ h => h.1)); have n1_ := Aside0.mk (KeepBut.trans qq4 hk (.inl rfl)); have n2_ := Aside0.mk (hb); have n3_ := Aside0.mk (hi); clear HO189; clear HK; clear HB; clear HI0; have HO189 := n0_; have HK := n1_; have HB := n2_; have HI0 := n3_; clear n0_ n1_ n2_ n3_; (try clear hb); (try clear hb2); (try clear hk); (try clear hi)))
      go_ret
      exact ⟨_, qq10, Kd.Q_of_R (qq2 HO189.out), qq8, qq6, qq4⟩

end Go.Proofs.Ytgdhgncdpmalcaa.Q
