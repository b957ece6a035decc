/- Functions of the translation as plain Lean functions, each with a proof that the Go code comes to its answers; written by a program of the prover's (a changed copy of the kit's printer). -/
import Derived.Test.YtbbpianfoimejaaQ0
import Derived.Test.YtbbpianfoimejaaQ4
import Derived.Test.YtbbpianfoimejaaQ5
import Derived.Test.YtbbpianfoimejaaQ23
import Derived.Test.YtbbpianfoimejaaQ24
import Derived.Test.YtbbpianfoimejaaQ33
import Derived.Test.YtbbpianfoimejaaQ34
import Derived.Test.YtbbpianfoimejaaQ36
import Derived.Test.YtbbpianfoimejaaQ37
namespace Go.Proofs.Ytbbpianfoimejaa.Q
open Go.RowKit Go.Proofs.YtbbpianfoimejaaW.PrintWords Go.Proofs.YtbbpianfoimejaaW.PrintLast Go.Proofs.YtbbpianfoimejaaW.PrintMore
attribute [local go_sem] max2_int min2_int max_two min_two max_three min_three max_four min_four   -- for this text's walks alone
set_option linter.unusedVariables false
set_option linter.unusedSimpArgs false

/-! ### laws_FnTreesMerge: function 8 -/
mutual
def laws_FnTreesMerge.j0 : Nat → List Int → List Int → Bool → Option (Bool)
  | 0, _, _, _ => none
  | k + 1, x0, x1, x28 => if x28 = true then (some true) else ((spec_DrawNetMerge.f k x0).bind fun bt553 => ((impl_NetMerge.f bt553.1 bt553.2.1 bt553.2.2).bind fun bt558 => ((spec_NetMerge.f bt553.1 bt553.2.1 bt553.2.2).bind fun bt563 => (if (bt558.2.2 != bt563.2.2) = true then (laws_FnTreesMerge.j1 k x1 bt553.1 bt553.2.1 bt553.2.2 bt558.1 bt558.2.1 bt558.2.2 bt563.1 bt563.2.1 bt563.2.2 true) else (if bt558.1 = bt563.1 then ((laws_sameRuns.f k bt558.2.1 bt563.2.1).bind fun t568 => (if t568 = true then (laws_FnTreesMerge.j1 k x1 bt553.1 bt553.2.1 bt553.2.2 bt558.1 bt558.2.1 bt558.2.2 bt563.1 bt563.2.1 bt563.2.2 (!bt558.2.2)) else (laws_FnTreesMerge.j1 k x1 bt553.1 bt553.2.1 bt553.2.2 bt558.1 bt558.2.1 bt558.2.2 bt563.1 bt563.2.1 bt563.2.2 true))) else (laws_FnTreesMerge.j1 k x1 bt553.1 bt553.2.1 bt553.2.2 bt558.1 bt558.2.1 bt558.2.2 bt563.1 bt563.2.1 bt563.2.2 true))))))
def laws_FnTreesMerge.j1 : Nat → List Int → Int → List (S46) → Int → Int → List (S46) → Bool → Int → List (S46) → Bool → Bool → Option (Bool)
  | 0, _, _, _, _, _, _, _, _, _, _, _ => none
  | k + 1, x1, x5, x6, x7, x8, x9, x10, x11, x12, x13, x68 => if x68 = true then (if (x10 == x13) = true then (if x8 = x11 then ((laws_sameRuns.f k x9 x12).bind fun t569 => (some t569)) else (some false)) else (some false)) else ((laws_some.f k x5 (x1.length : Int)).bind fun t570 => (if 0 ≤ x7 then (if x7 < (x6.length : Int) then (if 0 ≤ (mn ((rd_T46 x6 x7).f0) ((rd_T46 x6 x7).f1)) then (if (mn ((rd_T46 x6 x7).f0) ((rd_T46 x6 x7).f1)) < (t570.length : Int) then (if 0 ≤ (mx ((rd_T46 x6 x7).f0) ((rd_T46 x6 x7).f1)) then (if (mx ((rd_T46 x6 x7).f0) ((rd_T46 x6 x7).f1)) < (t570.length : Int) then ((some (t570.set ((mx ((rd_T46 x6 x7).f0) ((rd_T46 x6 x7).f1)) : Int).toNat (rd t570 (mn ((rd_T46 x6 x7).f0) ((rd_T46 x6 x7).f1))) : List Int)).bind fun y578 => ((laws_fit.f k x6 y578).bind fun t579 => ((impl_NetMerge.f x5 t579 x7).bind fun bt582 => ((some (([] : List Int) : List Int)).bind fun y587 => (if (mx ((rd_T46 x6 x7).f0) ((rd_T46 x6 x7).f1)) ≤ (t570.length : Int) then ((some (y578.take ((mx ((rd_T46 x6 x7).f0) ((rd_T46 x6 x7).f1)) : Int).toNat : List Int)).bind fun y590 => (if y587.length + y590.length < 17592186044416 then ((some (y587 ++ y590 : List Int)).bind fun y594 => (if 0 ≤ (wrap64 ((mx ((rd_T46 x6 x7).f0) ((rd_T46 x6 x7).f1)) + 1)) then (if (wrap64 ((mx ((rd_T46 x6 x7).f0) ((rd_T46 x6 x7).f1)) + 1)) ≤ (t570.length : Int) then ((some (y578.drop ((wrap64 ((mx ((rd_T46 x6 x7).f0) ((rd_T46 x6 x7).f1)) + 1)) : Int).toNat : List Int)).bind fun y597 => (if y594.length + y597.length < 17592186044416 then (if bt582.2.2 = true then ((impl_NetWhole.f k x8 x9).bind fun t604 => ((impl_NetWhole.f k x5 x6).bind fun t605 => (if (t604 == t605) = true then ((impl_NetFits.f k x8 bt582.2.1 (y594 ++ y597)).bind fun t606 => (some t606)) else (some false)))) else (some false)) else (none))) else (none)) else (none))) else (none))) else (none)))))) else (none)) else (none)) else (none)) else (none)) else (none)) else (none)))
end
def laws_FnTreesMerge.f (k : Nat) (l0 : List Int) (l1 : List Int) : Option (Bool) := if (l0.length : Int) > 1048576 then (laws_FnTreesMerge.j0 k l0 l1 true) else (laws_FnTreesMerge.j0 k l0 l1 (decide ((l1.length : Int) > 1048576)))
theorem laws_FnTreesMerge.mono_l : ∀ k, (∀ y0 y1 y2, LeO (laws_FnTreesMerge.j0 k y0 y1 y2) (laws_FnTreesMerge.j0 (k + 1) y0 y1 y2)) ∧ (∀ y0 y1 y2 y3 y4 y5 y6 y7 y8 y9 y10, LeO (laws_FnTreesMerge.j1 k y0 y1 y2 y3 y4 y5 y6 y7 y8 y9 y10) (laws_FnTreesMerge.j1 (k + 1) y0 y1 y2 y3 y4 y5 y6 y7 y8 y9 y10))
  | 0 => ⟨fun _ _ _ r h => by simp [laws_FnTreesMerge.j0] at h, fun _ _ _ _ _ _ _ _ _ _ _ r h => by simp [laws_FnTreesMerge.j1] at h⟩
  | k + 1 => by
    obtain ⟨ih0, ih1⟩ := laws_FnTreesMerge.mono_l k
    refine ⟨?_, ?_⟩
    · intro y0 y1 y2
      unfold laws_FnTreesMerge.j0
      repeat' first
      | (with_reducible exact ih0 _ _ _)
      | (with_reducible exact ih1 _ _ _ _ _ _ _ _ _ _ _)
      | (with_reducible exact impl_NetFits.mono _ _ _ _)
      | (with_reducible exact impl_NetWhole.mono _ _ _)
      | (with_reducible exact laws_fit.mono _ _ _)
      | (with_reducible exact laws_sameRuns.mono _ _ _)
      | (with_reducible exact laws_some.mono _ _ _)
      | (with_reducible exact spec_DrawNetMerge.mono _ _)
      | (with_reducible exact LeO.refl _)
      | (with_reducible exact LeO.none _)
      | (with_reducible refine LeO.ite ?_ ?_)
      | (with_reducible refine LeO.bind ?_ (fun _ => ?_))
      | exact ih0 _ _ _
      | exact ih1 _ _ _ _ _ _ _ _ _ _ _
      | exact impl_NetFits.mono _ _ _ _
      | exact impl_NetWhole.mono _ _ _
      | exact laws_fit.mono _ _ _
      | exact laws_sameRuns.mono _ _ _
      | exact laws_some.mono _ _ _
      | exact spec_DrawNetMerge.mono _ _
      | exact LeO.none _
      | refine LeO.ite ?_ ?_
      | refine LeO.bind ?_ (fun _ => ?_)
    · intro y0 y1 y2 y3 y4 y5 y6 y7 y8 y9 y10
      unfold laws_FnTreesMerge.j1
      repeat' first
      | (with_reducible exact ih0 _ _ _)
      | (with_reducible exact ih1 _ _ _ _ _ _ _ _ _ _ _)
      | (with_reducible exact impl_NetFits.mono _ _ _ _)
      | (with_reducible exact impl_NetWhole.mono _ _ _)
      | (with_reducible exact laws_fit.mono _ _ _)
      | (with_reducible exact laws_sameRuns.mono _ _ _)
      | (with_reducible exact laws_some.mono _ _ _)
      | (with_reducible exact spec_DrawNetMerge.mono _ _)
      | (with_reducible exact LeO.refl _)
      | (with_reducible exact LeO.none _)
      | (with_reducible refine LeO.ite ?_ ?_)
      | (with_reducible refine LeO.bind ?_ (fun _ => ?_))
      | exact ih0 _ _ _
      | exact ih1 _ _ _ _ _ _ _ _ _ _ _
      | exact impl_NetFits.mono _ _ _ _
      | exact impl_NetWhole.mono _ _ _
      | exact laws_fit.mono _ _ _
      | exact laws_sameRuns.mono _ _ _
      | exact laws_some.mono _ _ _
      | exact spec_DrawNetMerge.mono _ _
      | exact LeO.none _
      | refine LeO.ite ?_ ?_
      | refine LeO.bind ?_ (fun _ => ?_)
theorem laws_FnTreesMerge.mono : ∀ a0 a1 k, LeO (laws_FnTreesMerge.f k a0 a1) (laws_FnTreesMerge.f (k + 1) a0 a1) := by
  intro a0 a1 k
  obtain ⟨ih0, ih1⟩ := laws_FnTreesMerge.mono_l k
  unfold laws_FnTreesMerge.f
  repeat' first
      | (with_reducible exact ih0 _ _ _)
      | (with_reducible exact ih1 _ _ _ _ _ _ _ _ _ _ _)
      | (with_reducible exact impl_NetFits.mono _ _ _ _)
      | (with_reducible exact impl_NetWhole.mono _ _ _)
      | (with_reducible exact laws_fit.mono _ _ _)
      | (with_reducible exact laws_sameRuns.mono _ _ _)
      | (with_reducible exact laws_some.mono _ _ _)
      | (with_reducible exact spec_DrawNetMerge.mono _ _)
      | (with_reducible exact LeO.refl _)
      | (with_reducible exact LeO.none _)
      | (with_reducible refine LeO.ite ?_ ?_)
      | (with_reducible refine LeO.bind ?_ (fun _ => ?_))
      | exact ih0 _ _ _
      | exact ih1 _ _ _ _ _ _ _ _ _ _ _
      | exact impl_NetFits.mono _ _ _ _
      | exact impl_NetWhole.mono _ _ _
      | exact laws_fit.mono _ _ _
      | exact laws_sameRuns.mono _ _ _
      | exact laws_some.mono _ _ _
      | exact spec_DrawNetMerge.mono _ _
      | exact LeO.none _
      | refine LeO.ite ?_ ?_
      | refine LeO.bind ?_ (fun _ => ?_)
def laws_FnTreesMerge.T9 : Bool × List (List Nat × List Nat) := (true, [([], []), ([], []), ([0, 1], [0, 1]), ([2], [2]), ([3], [3]), ([], []), ([], []), ([5, 6], [5, 6]), ([7], [7]), ([8], [8]), ([4, 9], [4, 9]), ([10, 0, 1, 2, 3, 4, 5, 6, 7, 8, 9, 10], [10])])
def laws_FnTreesMerge.B9 : List Nat := [0, 0, 3, 7, 15, 0, 0, 96, 224, 480, 1023, 2047]
theorem laws_FnTreesMerge.tab9 : rtab .any (opsOf Try.f8 9) = laws_FnTreesMerge.T9 := by kernel_rfl
theorem laws_FnTreesMerge.bits9 : waitsOk laws_FnTreesMerge.T9.2 laws_FnTreesMerge.B9 = true := by kernel_rfl
def laws_FnTreesMerge.T10 : Bool × List (List Nat × List Nat) := (true, [([], []), ([], []), ([0, 1], [0, 1]), ([2], [2]), ([3], [3]), ([], []), ([], []), ([5, 6], [5, 6]), ([7], [7]), ([8], [8]), ([4, 9], [4, 9]), ([10, 0, 1, 2, 3, 4, 5, 6, 7, 8, 9, 10], [10])])
def laws_FnTreesMerge.B10 : List Nat := [0, 0, 3, 7, 15, 0, 0, 96, 224, 480, 1023, 2047]
theorem laws_FnTreesMerge.tab10 : rtab .any (opsOf Try.f8 10) = laws_FnTreesMerge.T10 := by kernel_rfl
theorem laws_FnTreesMerge.bits10 : waitsOk laws_FnTreesMerge.T10.2 laws_FnTreesMerge.B10 = true := by kernel_rfl
def laws_FnTreesMerge.T13 : Bool × List (List Nat × List Nat) := (true, [([], []), ([], []), ([], []), ([1, 2], [1, 2]), ([0, 3], [0, 3]), ([], []), ([], []), ([6], [6]), ([5, 7], [5, 7]), ([4, 8, 4], [4, 8]), ([9, 9, 0, 1, 2, 3, 4, 5, 6, 7, 8, 9], [9])])
def laws_FnTreesMerge.B13 : List Nat := [0, 0, 0, 6, 15, 0, 0, 64, 224, 511, 1023]
theorem laws_FnTreesMerge.tab13 : rtab .any (opsOf Try.f8 13) = laws_FnTreesMerge.T13 := by kernel_rfl
theorem laws_FnTreesMerge.bits13 : waitsOk laws_FnTreesMerge.T13.2 laws_FnTreesMerge.B13 = true := by kernel_rfl
set_option maxHeartbeats 8000000 in
set_option maxRecDepth 100000 in
theorem laws_FnTreesMerge.calls (k : Nat) (A0 : Option Addr) (c0 : Nat) (l0 : List Int) (A1 : Option Addr) (c1 : Nat) (l1 : List Int) (r : Bool) (w : World) (hr0 : Kd.C (Kd.int .u8) w A0 l0.length l0) (hc0 : l0.length ≤ c0) (hr1 : Kd.C (Kd.int .u8) w A1 l1.length l1) (hc1 : l1.length ≤ c1) (h : laws_FnTreesMerge.f k l0 l1 = some r) (hT0 : r = true) :
    Calls Try.prog 8 #[.slice A0 l0.length c0, .slice A1 l1.length c1] w fun e w' => e = .returned (.bool r) ∧ Below w.heap.size w w' := by
  have hT := Aside0.mk hT0
  clear hT0
  have HR0 := Aside0.mk hr0
  have HC0 := Aside0.mk hc0
  clear hr0 hc0
  have HR1 := Aside0.mk hr1
  have HC1 := Aside0.mk hc1
  clear hr1 hc1
  have HB := Aside0.mk (Below.refl w.heap.size w)
  have H : (if (l0.length : Int) > 1048576 then (laws_FnTreesMerge.j0 k l0 l1 true) else (laws_FnTreesMerge.j0 k l0 l1 (decide ((l1.length : Int) > 1048576)))) = some r := h
  clear h
  have HC3 := Aside0.mk H
  clear H
  go_enter Try.func8, Try.ntmps8
  go_upto_region 1 with (fail)
  go_cut [28] (fun v28 wc => ∃ (kq : Nat) (x28_2 : Bool), v28 = .bool x28_2 ∧ Aside0 (laws_FnTreesMerge.j0 kq l0 l1 x28_2 = some r) ∧ Aside0 (kq ≤ k) ∧ Aside0 (Below w.heap.size w wc))
  case first =>
    have H := HC3.out
    clear HC3
    by_cases c4 : (l0.length : Int) > 1048576
    · rw [if_pos c4] at H
      have c4b0 : decide (1048576 < (l0.length : Int)) = true := decide_eq_true c4
      have c4b1 : decide (1048576 < l0.length) = true := decide_eq_true (by omega)
      clear c4
      (first | rw [c4b0] | (simp only [i64_w, i32_w]; rw [c4b0]) | skip)
      have H' := Aside0.mk H
      clear H
      go_wp2
      go_meet
      case rel => exact ⟨_, (true), (by first | rfl | (simp; done) | (simp [*]; done)), H', ⟨by first | omega | exact Nat.le_refl _⟩, ⟨by repeat (first | (with_reducible first | exact HB.out | apply below_alloc | apply pw_below_drewN | apply below_drew1) | exact HB.out)⟩⟩
    · rw [if_neg c4] at H
      have c4b0 : decide (1048576 < (l0.length : Int)) = false := decide_eq_false c4
      have c4b1 : decide (1048576 < l0.length) = false := decide_eq_false (by omega)
      clear c4
      (first | rw [c4b0] | (simp only [i64_w, i32_w]; rw [c4b0]) | skip)
      have H' := Aside0.mk H
      clear H
      go_wp2
      go_meet
      case rel => exact ⟨_, (decide ((l1.length : Int) > 1048576)), (by first | rfl | (simp; done) | (simp [*]; done)), H', ⟨by first | omega | exact Nat.le_refl _⟩, ⟨by repeat (first | (with_reducible first | exact HB.out | apply below_alloc | apply pw_below_drewN | apply below_drew1) | exact HB.out)⟩⟩
  case rest =>
    clear HC3
    try clear c1
    try clear p2
    try clear c4
    try clear c4b0
    try clear c4b1
    obtain ⟨kq, x28_2, rfl, HA, HJ2, HB⟩ := hcut
    cases kq with
    | zero => exact absurd HA.out (by simp [laws_FnTreesMerge.j0])
    | succ kj2 =>
      have H := HA.out
      clear HA
      simp only [laws_FnTreesMerge.j0] at H
      by_cases c5 : x28_2 = true
      · subst c5
        have H1 : (some true) = some r := by rw [if_pos rfl] at H; exact H
        clear H
        have H := H1
        clear H1
        obtain rfl := Option.some.inj H
        go_wp2
        go_ret
        exact ⟨by first | rfl | (simp [errW_none, errW_some] <;> rfl) | (simp [*, errW_none, errW_some] <;> rfl), by repeat (first | (with_reducible first | exact HB.out | apply below_alloc | apply pw_below_drewN | apply below_drew1) | exact HB.out)⟩
      · replace c5 := Bool.eq_false_iff.mpr c5
        subst c5
        have H1 : ((spec_DrawNetMerge.f kj2 l0).bind fun bt553 => ((impl_NetMerge.f bt553.1 bt553.2.1 bt553.2.2).bind fun bt558 => ((spec_NetMerge.f bt553.1 bt553.2.1 bt553.2.2).bind fun bt563 => (if (bt558.2.2 != bt563.2.2) = true then (laws_FnTreesMerge.j1 kj2 l1 bt553.1 bt553.2.1 bt553.2.2 bt558.1 bt558.2.1 bt558.2.2 bt563.1 bt563.2.1 bt563.2.2 true) else (if bt558.1 = bt563.1 then ((laws_sameRuns.f kj2 bt558.2.1 bt563.2.1).bind fun t568 => (if t568 = true then (laws_FnTreesMerge.j1 kj2 l1 bt553.1 bt553.2.1 bt553.2.2 bt558.1 bt558.2.1 bt558.2.2 bt563.1 bt563.2.1 bt563.2.2 (!bt558.2.2)) else (laws_FnTreesMerge.j1 kj2 l1 bt553.1 bt553.2.1 bt553.2.2 bt558.1 bt558.2.1 bt558.2.2 bt563.1 bt563.2.1 bt563.2.2 true))) else (laws_FnTreesMerge.j1 kj2 l1 bt553.1 bt553.2.1 bt553.2.2 bt558.1 bt558.2.1 bt558.2.2 bt563.1 bt563.2.1 bt563.2.2 true)))))) = some r := by rw [if_neg (show ¬ (false = true) by decide)] at H; exact H
        clear H
        have H := H1
        clear H1
        replace H := Option.bind_eq_some_iff.mp H
        obtain ⟨⟨t553, t554, t555⟩, A60, H⟩ := H
        replace H : ((impl_NetMerge.f t553 t554 t555).bind fun bt558 => ((spec_NetMerge.f t553 t554 t555).bind fun bt563 => (if (bt558.2.2 != bt563.2.2) = true then (laws_FnTreesMerge.j1 kj2 l1 t553 t554 t555 bt558.1 bt558.2.1 bt558.2.2 bt563.1 bt563.2.1 bt563.2.2 true) else (if bt558.1 = bt563.1 then ((laws_sameRuns.f kj2 bt558.2.1 bt563.2.1).bind fun t568 => (if t568 = true then (laws_FnTreesMerge.j1 kj2 l1 t553 t554 t555 bt558.1 bt558.2.1 bt558.2.2 bt563.1 bt563.2.1 bt563.2.2 (!bt558.2.2)) else (laws_FnTreesMerge.j1 kj2 l1 t553 t554 t555 bt558.1 bt558.2.1 bt558.2.2 bt563.1 bt563.2.1 bt563.2.2 true))) else (laws_FnTreesMerge.j1 kj2 l1 t553 t554 t555 bt558.1 bt558.2.1 bt558.2.2 bt563.1 bt563.2.1 bt563.2.2 true))))) = some r := H
        have A6 := Aside0.mk A60
        clear A60
        replace H := Option.bind_eq_some_iff.mp H
        obtain ⟨⟨t558, t559, t560⟩, A70, H⟩ := H
        replace H : ((spec_NetMerge.f t553 t554 t555).bind fun bt563 => (if (t560 != bt563.2.2) = true then (laws_FnTreesMerge.j1 kj2 l1 t553 t554 t555 t558 t559 t560 bt563.1 bt563.2.1 bt563.2.2 true) else (if t558 = bt563.1 then ((laws_sameRuns.f kj2 t559 bt563.2.1).bind fun t568 => (if t568 = true then (laws_FnTreesMerge.j1 kj2 l1 t553 t554 t555 t558 t559 t560 bt563.1 bt563.2.1 bt563.2.2 (!t560)) else (laws_FnTreesMerge.j1 kj2 l1 t553 t554 t555 t558 t559 t560 bt563.1 bt563.2.1 bt563.2.2 true))) else (laws_FnTreesMerge.j1 kj2 l1 t553 t554 t555 t558 t559 t560 bt563.1 bt563.2.1 bt563.2.2 true)))) = some r := H
        have A7 := Aside0.mk A70
        clear A70
        replace H := Option.bind_eq_some_iff.mp H
        obtain ⟨⟨t563, t564, t565⟩, A80, H⟩ := H
        replace H : (if (t560 != t565) = true then (laws_FnTreesMerge.j1 kj2 l1 t553 t554 t555 t558 t559 t560 t563 t564 t565 true) else (if t558 = t563 then ((laws_sameRuns.f kj2 t559 t564).bind fun t568 => (if t568 = true then (laws_FnTreesMerge.j1 kj2 l1 t553 t554 t555 t558 t559 t560 t563 t564 t565 (!t560)) else (laws_FnTreesMerge.j1 kj2 l1 t553 t554 t555 t558 t559 t560 t563 t564 t565 true))) else (laws_FnTreesMerge.j1 kj2 l1 t553 t554 t555 t558 t559 t560 t563 t564 t565 true))) = some r := H
        have A8 := Aside0.mk A80
        clear A80
        have HC9 := Aside0.mk H
        clear H
        go_upto_region 6 with (first | ((with_reducible refine gate_callee (f := 30) rfl ?_); refine goesL_ (some 31) rfl rfl Try.func30 (by kernel_rfl) rfl #[.slice A0 l0.length c0] rfl (by (try simp only [List.map_toArray, List.map_cons, List.map_nil]); first | done | rfl | (simp only [List.length_drop, List.length_take]; rfl)) ?_; (with_reducible refine (spec_DrawNetMerge.calls kj2 _ _ l0 t553 t554 t555 _ ?side1 ?side2 A6.out).mono ?_); (case side1 => repeat (first | exact (Kd.C_below HR0.out HB.out) | (with_reducible refine Kd.C_alloc ?_ _) | (with_reducible refine Kd.C_drewN ?_ _) | (with_reducible refine Kd.C_drew ?_))); (case side2 => exact HC0.out); rintro e w10 ⟨v556, rfl, ho0, hb⟩; refine ⟨_, rfl, ?_⟩; have n0_ := Aside0.mk (Kd.R_lower ho0 (below_size (by repeat (first | (with_reducible first | exact HB.out | apply below_alloc | apply pw_below_drewN | apply below_drew1) | exact HB.out)))); have n1_ := Aside0.mk (below_step (by repeat (first | (with_reducible first | exact HB.out | apply below_alloc | apply pw_below_drewN | apply below_drew1) | exact HB.out)) hb); clear HB; have HO557 := n0_; have HB := n1_; clear n0_ n1_; (try clear hb); (try clear hb2); (try clear hk); (try clear hi); (try clear ho0); obtain ⟨Ao11, co11, eo11⟩ := Kd.R_slice HO557.out; subst eo11) | ((with_reducible refine gate_callee (f := 25) rfl ?_); refine goesL_ (some 39) rfl rfl Try.func25 (by kernel_rfl) rfl #[.int .i64 t553, .slice Ao11 t554.length co11, .int .i64 t555] rfl (by (try simp only [List.map_toArray, List.map_cons, List.map_nil]); first | done | rfl | (simp only [List.length_drop, List.length_take]; rfl)) ?_; (with_reducible refine (impl_NetMerge.calls t553 _ _ t554 t555 t558 t559 t560 _ ?side1 ?side2 A7.out).mono ?_); (case side1 => repeat (first | exact (Kd.R_reads' HO557.out).2.2 | (with_reducible refine Kd.C_alloc ?_ _) | (with_reducible refine Kd.C_drewN ?_ _) | (with_reducible refine Kd.C_drew ?_))); (case side2 => exact (Kd.R_reads' HO557.out).2.1); rintro e w12 ⟨v561, rfl, ho0, hb⟩; refine ⟨_, rfl, ?_⟩; have n0_ := Aside0.mk (Kd.R_elder' (by (with_reducible repeat (first | apply Kd.R_alloc | apply Kd.R_drewN | apply Kd.R_drew)); exact HO557.out) (Kd.R_base ho0) hb); have n1_ := Aside0.mk (Kd.R_lower (Kd.R_new' ho0 (Kd.R_lt (by (with_reducible repeat (first | apply Kd.R_alloc | apply Kd.R_drewN | apply Kd.R_drew)); exact HO557.out))) (below_size (by repeat (first | (with_reducible first | exact HB.out | apply below_alloc | apply pw_below_drewN | apply below_drew1) | exact HB.out)))); have n2_ := Aside0.mk (below_step (by repeat (first | (with_reducible first | exact HB.out | apply below_alloc | apply pw_below_drewN | apply below_drew1) | exact HB.out)) hb); clear HO557; clear HB; have HO557 := n0_; have HO562 := n1_; have HB := n2_; clear n0_ n1_ n2_; (try clear hb); (try clear hb2); (try clear hk); (try clear hi); (try clear ho0)) | ((with_reducible refine gate_callee (f := 24) rfl ?_); refine goesL_ (some 47) rfl rfl Try.func24 (by kernel_rfl) rfl #[.int .i64 t553, .slice Ao11 t554.length co11, .int .i64 t555] rfl (by (try simp only [List.map_toArray, List.map_cons, List.map_nil]); first | done | rfl | (simp only [List.length_drop, List.length_take]; rfl)) ?_; (with_reducible refine (spec_NetMerge.calls t553 _ _ t554 t555 t563 t564 t565 _ ?side1 ?side2 A8.out).mono ?_); (case side1 => repeat (first | exact (Kd.R_reads' HO557.out).2.2 | (with_reducible refine Kd.C_alloc ?_ _) | (with_reducible refine Kd.C_drewN ?_ _) | (with_reducible refine Kd.C_drew ?_))); (case side2 => exact (Kd.R_reads' HO557.out).2.1); rintro e w13 ⟨v566, rfl, ho0, hb⟩; refine ⟨_, rfl, ?_⟩; have n0_ := Aside0.mk (Kd.R_elder' (by (with_reducible repeat (first | apply Kd.R_alloc | apply Kd.R_drewN | apply Kd.R_drew)); exact HO557.out) (Kd.R_base ho0) hb); have n1_ := Aside0.mk (Kd.R_elder' (by (with_reducible repeat (first | apply Kd.R_alloc | apply Kd.R_drewN | apply Kd.R_drew)); exact HO562.out) (Kd.R_base ho0) hb); have n2_ := Aside0.mk (Kd.R_lower (Kd.R_new' (Kd.R_new' ho0 (Kd.R_lt (by (with_reducible repeat (first | apply Kd.R_alloc | apply Kd.R_drewN | apply Kd.R_drew)); exact HO557.out))) (Kd.R_lt (by (with_reducible repeat (first | apply Kd.R_alloc | apply Kd.R_drewN | apply Kd.R_drew)); exact HO562.out))) (below_size (by repeat (first | (with_reducible first | exact HB.out | apply below_alloc | apply pw_below_drewN | apply below_drew1) | exact HB.out)))); have n3_ := Aside0.mk (below_step (by repeat (first | (with_reducible first | exact HB.out | apply below_alloc | apply pw_below_drewN | apply below_drew1) | exact HB.out)) hb); clear HO557; clear HO562; clear HB; have HO557 := n0_; have HO562 := n1_; have HO567 := n2_; have HB := n3_; clear n0_ n1_ n2_ n3_; (try clear hb); (try clear hb2); (try clear hk); (try clear hi); (try clear ho0)))
        (try simp only [Act.put, List.setIfInBounds_toArray, List.set_cons_zero, List.set_cons_succ])
        go_cut [68] (fun v68 wc => ∃ (kq : Nat) (x68_8 : Bool), v68 = .bool x68_8 ∧ Aside0 (laws_FnTreesMerge.j1 kq l1 t553 t554 t555 t558 t559 t560 t563 t564 t565 x68_8 = some r) ∧ Aside0 (kq ≤ kj2) ∧ Aside0 (Kd.R k46 46 wc w.heap.size (fun k_ => some k_ ≠ (v561 : Value).ownBlock ∧ some k_ ≠ (v566 : Value).ownBlock) (.slice Ao11 t554.length co11) t554) ∧ Aside0 (Kd.R k46 46 wc w.heap.size (fun k_ => some k_ ≠ ((.slice Ao11 t554.length co11) : Value).ownBlock ∧ some k_ ≠ (v566 : Value).ownBlock) v561 t559) ∧ Aside0 (Kd.R k46 46 wc w.heap.size (fun k_ => some k_ ≠ ((.slice Ao11 t554.length co11) : Value).ownBlock ∧ some k_ ≠ (v561 : Value).ownBlock) v566 t564) ∧ Aside0 (Below w.heap.size w wc))
        case first =>
          have H := HC9.out
          clear HC9
          by_cases c14 : (t560 != t565) = true
          · rw [if_pos c14] at H
            have c14b0 : (t560 != t565) = true := c14
            (try (have c14b1 : decide (t560 = t565) = false := by simpa using c14))
            (try (have c14b2 : (t560 == t565) = false := by simpa using c14))
            (try (have c14b3 : ¬ (t560 = t565) := by simpa using c14))
            clear c14
            (first | rw [c14b0] | (simp only [i64_w, i32_w]; rw [c14b0]) | skip)
            have H' := Aside0.mk H
            clear H
            go_wp2
            go_meet
            case rel => exact ⟨_, (true), (by first | rfl | (simp; done) | (simp [*]; done)), H', ⟨by have := HJ2.out; first | omega | exact Nat.le_refl _⟩, ⟨by (with_reducible repeat (first | apply Kd.R_alloc | apply Kd.R_drewN | apply Kd.R_drew)); exact Kd.R_mono HO557.out (fun _ hk => ⟨hk.1.2, hk.2⟩)⟩, ⟨by (with_reducible repeat (first | apply Kd.R_alloc | apply Kd.R_drewN | apply Kd.R_drew)); exact Kd.R_mono HO562.out (fun _ hk => ⟨hk.1.2, hk.2⟩)⟩, ⟨by (with_reducible repeat (first | apply Kd.R_alloc | apply Kd.R_drewN | apply Kd.R_drew)); exact Kd.R_mono HO567.out (fun _ hk => ⟨hk.1.2, hk.2⟩)⟩, ⟨by repeat (first | (with_reducible first | exact HB.out | apply below_alloc | apply pw_below_drewN | apply below_drew1) | exact HB.out)⟩⟩
          · rw [if_neg c14] at H
            have c14b0 : (t560 != t565) = false := by simpa using c14
            (try (have c14b1 : decide (t560 = t565) = true := by simpa using c14))
            (try (have c14b2 : (t560 == t565) = true := by simpa using c14))
            clear c14
            (first | rw [c14b0] | (simp only [i64_w, i32_w]; rw [c14b0]) | skip)
            by_cases c15 : t558 = t563
            · rw [if_pos c15] at H
              have c15b0 : (t558 == t563) = true := beq_iff_eq.mpr c15
              have c15b1 : (t558 != t563) = false := bne_eq_false_iff_eq.mpr c15
              clear c15
              replace H := Option.bind_eq_some_iff.mp H
              obtain ⟨t568, A160, H⟩ := H
              replace H : (if t568 = true then (laws_FnTreesMerge.j1 kj2 l1 t553 t554 t555 t558 t559 t560 t563 t564 t565 (!t560)) else (laws_FnTreesMerge.j1 kj2 l1 t553 t554 t555 t558 t559 t560 t563 t564 t565 true)) = some r := H
              have A16 := Aside0.mk A160
              clear A160
              by_cases c17 : t568 = true
              · subst c17
                have H1 : (laws_FnTreesMerge.j1 kj2 l1 t553 t554 t555 t558 t559 t560 t563 t564 t565 (!t560)) = some r := by rw [if_pos rfl] at H; exact H
                clear H
                have H := H1
                clear H1
                have H' := Aside0.mk H
                clear H
                obtain ⟨Ao18, co18, eo18⟩ := Kd.R_slice HO562.out
                subst eo18
                obtain ⟨Ao19, co19, eo19⟩ := Kd.R_slice HO567.out
                subst eo19
                go_wp2_with (first | (go_at_call 27; (with_reducible refine (laws_sameRuns.calls kj2 _ _ t559 _ _ t564 true _ ?side1 ?side2 ?side3 ?side4 A16.out).mono ?_); (case side1 => repeat (first | exact (Kd.R_reads' HO562.out).2.2 | (with_reducible refine Kd.C_alloc ?_ _) | (with_reducible refine Kd.C_drewN ?_ _) | (with_reducible refine Kd.C_drew ?_))); (case side2 => exact (Kd.R_reads' HO562.out).2.1); (case side3 => repeat (first | exact (Kd.R_reads' HO567.out).2.2 | (with_reducible refine Kd.C_alloc ?_ _) | (with_reducible refine Kd.C_drewN ?_ _) | (with_reducible refine Kd.C_drew ?_))); (case side4 => exact (Kd.R_reads' HO567.out).2.1); rintro e w' ⟨rfl, ⟨nd, rfl⟩⟩))
                go_meet
                case rel => exact ⟨_, (!t560), (by first | rfl | (simp; done) | (simp [*]; done)), H', ⟨by have := HJ2.out; first | omega | exact Nat.le_refl _⟩, ⟨by (with_reducible repeat (first | apply Kd.R_alloc | apply Kd.R_drewN | apply Kd.R_drew)); exact Kd.R_mono HO557.out (fun _ hk => ⟨hk.1.2, hk.2⟩)⟩, ⟨by (with_reducible repeat (first | apply Kd.R_alloc | apply Kd.R_drewN | apply Kd.R_drew)); exact Kd.R_mono HO562.out (fun _ hk => ⟨hk.1.2, hk.2⟩)⟩, ⟨by (with_reducible repeat (first | apply Kd.R_alloc | apply Kd.R_drewN | apply Kd.R_drew)); exact Kd.R_mono HO567.out (fun _ hk => ⟨hk.1.2, hk.2⟩)⟩, ⟨by repeat (first | (with_reducible first | exact HB.out | apply below_alloc | apply pw_below_drewN | apply below_drew1) | exact HB.out)⟩⟩
              · replace c17 := Bool.eq_false_iff.mpr c17
                subst c17
                have H1 : (laws_FnTreesMerge.j1 kj2 l1 t553 t554 t555 t558 t559 t560 t563 t564 t565 true) = some r := by rw [if_neg (show ¬ (false = true) by decide)] at H; exact H
                clear H
                have H := H1
                clear H1
                have H' := Aside0.mk H
                clear H
                obtain ⟨Ao20, co20, eo20⟩ := Kd.R_slice HO562.out
                subst eo20
                obtain ⟨Ao21, co21, eo21⟩ := Kd.R_slice HO567.out
                subst eo21
                go_wp2_with (first | (go_at_call 27; (with_reducible refine (laws_sameRuns.calls kj2 _ _ t559 _ _ t564 false _ ?side1 ?side2 ?side3 ?side4 A16.out).mono ?_); (case side1 => repeat (first | exact (Kd.R_reads' HO562.out).2.2 | (with_reducible refine Kd.C_alloc ?_ _) | (with_reducible refine Kd.C_drewN ?_ _) | (with_reducible refine Kd.C_drew ?_))); (case side2 => exact (Kd.R_reads' HO562.out).2.1); (case side3 => repeat (first | exact (Kd.R_reads' HO567.out).2.2 | (with_reducible refine Kd.C_alloc ?_ _) | (with_reducible refine Kd.C_drewN ?_ _) | (with_reducible refine Kd.C_drew ?_))); (case side4 => exact (Kd.R_reads' HO567.out).2.1); rintro e w' ⟨rfl, ⟨nd, rfl⟩⟩))
                go_meet
                case rel => exact ⟨_, (true), (by first | rfl | (simp; done) | (simp [*]; done)), H', ⟨by have := HJ2.out; first | omega | exact Nat.le_refl _⟩, ⟨by (with_reducible repeat (first | apply Kd.R_alloc | apply Kd.R_drewN | apply Kd.R_drew)); exact Kd.R_mono HO557.out (fun _ hk => ⟨hk.1.2, hk.2⟩)⟩, ⟨by (with_reducible repeat (first | apply Kd.R_alloc | apply Kd.R_drewN | apply Kd.R_drew)); exact Kd.R_mono HO562.out (fun _ hk => ⟨hk.1.2, hk.2⟩)⟩, ⟨by (with_reducible repeat (first | apply Kd.R_alloc | apply Kd.R_drewN | apply Kd.R_drew)); exact Kd.R_mono HO567.out (fun _ hk => ⟨hk.1.2, hk.2⟩)⟩, ⟨by repeat (first | (with_reducible first | exact HB.out | apply below_alloc | apply pw_below_drewN | apply below_drew1) | exact HB.out)⟩⟩
            · rw [if_neg c15] at H
              have c15b0 : (t558 == t563) = false := beq_eq_false_iff_ne.mpr c15
              have c15b1 : (t558 != t563) = true := bne_iff_ne.mpr c15
              have H' := Aside0.mk H
              clear H
              go_wp2
              go_meet
              case rel => exact ⟨_, (true), (by first | rfl | (simp; done) | (simp [*]; done)), H', ⟨by have := HJ2.out; first | omega | exact Nat.le_refl _⟩, ⟨by (with_reducible repeat (first | apply Kd.R_alloc | apply Kd.R_drewN | apply Kd.R_drew)); exact Kd.R_mono HO557.out (fun _ hk => ⟨hk.1.2, hk.2⟩)⟩, ⟨by (with_reducible repeat (first | apply Kd.R_alloc | apply Kd.R_drewN | apply Kd.R_drew)); exact Kd.R_mono HO562.out (fun _ hk => ⟨hk.1.2, hk.2⟩)⟩, ⟨by (with_reducible repeat (first | apply Kd.R_alloc | apply Kd.R_drewN | apply Kd.R_drew)); exact Kd.R_mono HO567.out (fun _ hk => ⟨hk.1.2, hk.2⟩)⟩, ⟨by repeat (first | (with_reducible first | exact HB.out | apply below_alloc | apply pw_below_drewN | apply below_drew1) | exact HB.out)⟩⟩
        case rest =>
          clear HC9
          try clear c1
          try clear c2
          try clear p2
          try clear c3
          try clear c4
          try clear c4b0
          try clear c4b1
          try clear c5
          try clear c8
          try clear c14
          try clear c14b0
          try clear c14b1
          try clear c14b2
          try clear c15
          try clear c15b0
          try clear c15b1
          try clear c17
          try clear p2
          obtain ⟨kq, x68_8, rfl, HA, HJ8, HO_6, HO_9, HO_12, HB⟩ := hcut
          cases kq with
          | zero => exact absurd HA.out (by simp [laws_FnTreesMerge.j1])
          | succ kj8 =>
            have H := HA.out
            clear HA
            simp only [laws_FnTreesMerge.j1] at H
            by_cases c22 : x68_8 = true
            · subst c22
              have H1 : (if (t560 == t565) = true then (if t558 = t563 then ((laws_sameRuns.f kj8 t559 t564).bind fun t569 => (some t569)) else (some false)) else (some false)) = some r := by rw [if_pos rfl] at H; exact H
              clear H
              have H := H1
              clear H1
              by_cases c23 : (t560 == t565) = true
              · rw [if_pos c23] at H
                have c23b0 : (t560 == t565) = true := c23
                (try (have c23b1 : decide (t560 = t565) = true := by simpa using c23))
                (try (have c23b2 : (t560 == t565) = true := by simpa using c23))
                clear c23
                by_cases c24 : t558 = t563
                · rw [if_pos c24] at H
                  have c24b0 : (t558 == t563) = true := beq_iff_eq.mpr c24
                  have c24b1 : (t558 != t563) = false := bne_eq_false_iff_eq.mpr c24
                  clear c24
                  replace H := Option.bind_eq_some_iff.mp H
                  obtain ⟨t569, A250, H⟩ := H
                  replace H : (some t569) = some r := H
                  have A25 := Aside0.mk A250
                  clear A250
                  obtain rfl := Option.some.inj H
                  obtain ⟨Ao26, co26, eo26⟩ := Kd.R_slice HO_9.out
                  subst eo26
                  obtain ⟨Ao27, co27, eo27⟩ := Kd.R_slice HO_12.out
                  subst eo27
                  go_wp2_with (first | (go_at_call 27; (with_reducible refine (laws_sameRuns.calls kj8 _ _ t559 _ _ t564 t569 _ ?side1 ?side2 ?side3 ?side4 A25.out).mono ?_); (case side1 => repeat (first | exact (Kd.R_reads' HO_9.out).2.2 | (with_reducible refine Kd.C_alloc ?_ _) | (with_reducible refine Kd.C_drewN ?_ _) | (with_reducible refine Kd.C_drew ?_))); (case side2 => exact (Kd.R_reads' HO_9.out).2.1); (case side3 => repeat (first | exact (Kd.R_reads' HO_12.out).2.2 | (with_reducible refine Kd.C_alloc ?_ _) | (with_reducible refine Kd.C_drewN ?_ _) | (with_reducible refine Kd.C_drew ?_))); (case side4 => exact (Kd.R_reads' HO_12.out).2.1); rintro e w' ⟨rfl, ⟨nd, rfl⟩⟩))
                  go_ret
                  exact ⟨by first | rfl | (simp [errW_none, errW_some] <;> rfl) | (simp [*, errW_none, errW_some] <;> rfl), by repeat (first | (with_reducible first | exact HB.out | apply below_alloc | apply pw_below_drewN | apply below_drew1) | exact HB.out)⟩
                · rw [if_neg c24] at H
                  have c24b0 : (t558 == t563) = false := beq_eq_false_iff_ne.mpr c24
                  have c24b1 : (t558 != t563) = true := bne_iff_ne.mpr c24
                  exact absurd ((Option.some.inj H).trans hT.out) (by decide)
              · rw [if_neg c23] at H
                have c23b0 : (t560 == t565) = false := by simpa using c23
                (try (have c23b1 : decide (t560 = t565) = false := by simpa using c23))
                (try (have c23b2 : (t560 == t565) = false := by simpa using c23))
                (try (have c23b3 : ¬ (t560 = t565) := by simpa using c23))
                clear c23
                exact absurd ((Option.some.inj H).trans hT.out) (by decide)
            · replace c22 := Bool.eq_false_iff.mpr c22
              subst c22
              have H1 : ((laws_some.f kj8 t553 (l1.length : Int)).bind fun t570 => (if 0 ≤ t555 then (if t555 < (t554.length : Int) then (if 0 ≤ (mn ((rd_T46 t554 t555).f0) ((rd_T46 t554 t555).f1)) then (if (mn ((rd_T46 t554 t555).f0) ((rd_T46 t554 t555).f1)) < (t570.length : Int) then (if 0 ≤ (mx ((rd_T46 t554 t555).f0) ((rd_T46 t554 t555).f1)) then (if (mx ((rd_T46 t554 t555).f0) ((rd_T46 t554 t555).f1)) < (t570.length : Int) then ((some (t570.set ((mx ((rd_T46 t554 t555).f0) ((rd_T46 t554 t555).f1)) : Int).toNat (rd t570 (mn ((rd_T46 t554 t555).f0) ((rd_T46 t554 t555).f1))) : List Int)).bind fun y578 => ((laws_fit.f kj8 t554 y578).bind fun t579 => ((impl_NetMerge.f t553 t579 t555).bind fun bt582 => ((some (([] : List Int) : List Int)).bind fun y587 => (if (mx ((rd_T46 t554 t555).f0) ((rd_T46 t554 t555).f1)) ≤ (t570.length : Int) then ((some (y578.take ((mx ((rd_T46 t554 t555).f0) ((rd_T46 t554 t555).f1)) : Int).toNat : List Int)).bind fun y590 => (if y587.length + y590.length < 17592186044416 then ((some (y587 ++ y590 : List Int)).bind fun y594 => (if 0 ≤ (wrap64 ((mx ((rd_T46 t554 t555).f0) ((rd_T46 t554 t555).f1)) + 1)) then (if (wrap64 ((mx ((rd_T46 t554 t555).f0) ((rd_T46 t554 t555).f1)) + 1)) ≤ (t570.length : Int) then ((some (y578.drop ((wrap64 ((mx ((rd_T46 t554 t555).f0) ((rd_T46 t554 t555).f1)) + 1)) : Int).toNat : List Int)).bind fun y597 => (if y594.length + y597.length < 17592186044416 then (if bt582.2.2 = true then ((impl_NetWhole.f kj8 t558 t559).bind fun t604 => ((impl_NetWhole.f kj8 t553 t554).bind fun t605 => (if (t604 == t605) = true then ((impl_NetFits.f kj8 t558 bt582.2.1 (y594 ++ y597)).bind fun t606 => (some t606)) else (some false)))) else (some false)) else (none))) else (none)) else (none))) else (none))) else (none)))))) else (none)) else (none)) else (none)) else (none)) else (none)) else (none))) = some r := by rw [if_neg (show ¬ (false = true) by decide)] at H; exact H
              clear H
              have H := H1
              clear H1
              replace H := Option.bind_eq_some_iff.mp H
              obtain ⟨t570, A280, H⟩ := H
              replace H : (if 0 ≤ t555 then (if t555 < (t554.length : Int) then (if 0 ≤ (mn ((rd_T46 t554 t555).f0) ((rd_T46 t554 t555).f1)) then (if (mn ((rd_T46 t554 t555).f0) ((rd_T46 t554 t555).f1)) < (t570.length : Int) then (if 0 ≤ (mx ((rd_T46 t554 t555).f0) ((rd_T46 t554 t555).f1)) then (if (mx ((rd_T46 t554 t555).f0) ((rd_T46 t554 t555).f1)) < (t570.length : Int) then ((some (t570.set ((mx ((rd_T46 t554 t555).f0) ((rd_T46 t554 t555).f1)) : Int).toNat (rd t570 (mn ((rd_T46 t554 t555).f0) ((rd_T46 t554 t555).f1))) : List Int)).bind fun y578 => ((laws_fit.f kj8 t554 y578).bind fun t579 => ((impl_NetMerge.f t553 t579 t555).bind fun bt582 => ((some (([] : List Int) : List Int)).bind fun y587 => (if (mx ((rd_T46 t554 t555).f0) ((rd_T46 t554 t555).f1)) ≤ (t570.length : Int) then ((some (y578.take ((mx ((rd_T46 t554 t555).f0) ((rd_T46 t554 t555).f1)) : Int).toNat : List Int)).bind fun y590 => (if y587.length + y590.length < 17592186044416 then ((some (y587 ++ y590 : List Int)).bind fun y594 => (if 0 ≤ (wrap64 ((mx ((rd_T46 t554 t555).f0) ((rd_T46 t554 t555).f1)) + 1)) then (if (wrap64 ((mx ((rd_T46 t554 t555).f0) ((rd_T46 t554 t555).f1)) + 1)) ≤ (t570.length : Int) then ((some (y578.drop ((wrap64 ((mx ((rd_T46 t554 t555).f0) ((rd_T46 t554 t555).f1)) + 1)) : Int).toNat : List Int)).bind fun y597 => (if y594.length + y597.length < 17592186044416 then (if bt582.2.2 = true then ((impl_NetWhole.f kj8 t558 t559).bind fun t604 => ((impl_NetWhole.f kj8 t553 t554).bind fun t605 => (if (t604 == t605) = true then ((impl_NetFits.f kj8 t558 bt582.2.1 (y594 ++ y597)).bind fun t606 => (some t606)) else (some false)))) else (some false)) else (none))) else (none)) else (none))) else (none))) else (none)))))) else (none)) else (none)) else (none)) else (none)) else (none)) else (none)) = some r := H
              have A28 := Aside0.mk A280
              clear A280
              by_cases c29 : 0 ≤ t555
              · rw [if_pos c29] at H
                have c29b0 : decide (0 ≤ t555) = true := decide_eq_true c29
                clear c29
                by_cases c30 : t555 < (t554.length : Int)
                · rw [if_pos c30] at H
                  have c30b0 : decide (t555 < (t554.length : Int)) = true := decide_eq_true c30
                  clear c30
                  obtain ⟨ji31, hji31⟩ : ∃ j_ : Int, (mx ((rd_T46 t554 t555).f0) ((rd_T46 t554 t555).f1)) = j_ := ⟨_, rfl⟩
                  replace H : (if 0 ≤ (mn ((rd_T46 t554 t555).f0) ((rd_T46 t554 t555).f1)) then (if (mn ((rd_T46 t554 t555).f0) ((rd_T46 t554 t555).f1)) < (t570.length : Int) then (if 0 ≤ (ji31) then (if (ji31) < (t570.length : Int) then ((some (t570.set ((ji31) : Int).toNat (rd t570 (mn ((rd_T46 t554 t555).f0) ((rd_T46 t554 t555).f1))) : List Int)).bind fun y578 => ((laws_fit.f kj8 t554 y578).bind fun t579 => ((impl_NetMerge.f t553 t579 t555).bind fun bt582 => ((some (([] : List Int) : List Int)).bind fun y587 => (if (ji31) ≤ (t570.length : Int) then ((some (y578.take ((ji31) : Int).toNat : List Int)).bind fun y590 => (if y587.length + y590.length < 17592186044416 then ((some (y587 ++ y590 : List Int)).bind fun y594 => (if 0 ≤ (wrap64 ((ji31) + 1)) then (if (wrap64 ((ji31) + 1)) ≤ (t570.length : Int) then ((some (y578.drop ((wrap64 ((ji31) + 1)) : Int).toNat : List Int)).bind fun y597 => (if y594.length + y597.length < 17592186044416 then (if bt582.2.2 = true then ((impl_NetWhole.f kj8 t558 t559).bind fun t604 => ((impl_NetWhole.f kj8 t553 t554).bind fun t605 => (if (t604 == t605) = true then ((impl_NetFits.f kj8 t558 bt582.2.1 (y594 ++ y597)).bind fun t606 => (some t606)) else (some false)))) else (some false)) else (none))) else (none)) else (none))) else (none))) else (none)))))) else (none)) else (none)) else (none)) else (none)) = some r := by first | (rw [hji31] at H; exact H) | (simp only [hji31] at H ⊢; exact H)
                  (try rw [hji31] at A28)
                  have hji31_ : (if ((rd_T46 t554 t555).f0) < ((rd_T46 t554 t555).f1) then ((rd_T46 t554 t555).f1) else ((rd_T46 t554 t555).f0)) = ji31 := hji31
                  obtain ⟨ji32, hji32⟩ : ∃ j_ : Int, (mn ((rd_T46 t554 t555).f0) ((rd_T46 t554 t555).f1)) = j_ := ⟨_, rfl⟩
                  replace H : (if 0 ≤ (ji32) then (if (ji32) < (t570.length : Int) then (if 0 ≤ (ji31) then (if (ji31) < (t570.length : Int) then ((some (t570.set ((ji31) : Int).toNat (rd t570 (ji32)) : List Int)).bind fun y578 => ((laws_fit.f kj8 t554 y578).bind fun t579 => ((impl_NetMerge.f t553 t579 t555).bind fun bt582 => ((some (([] : List Int) : List Int)).bind fun y587 => (if (ji31) ≤ (t570.length : Int) then ((some (y578.take ((ji31) : Int).toNat : List Int)).bind fun y590 => (if y587.length + y590.length < 17592186044416 then ((some (y587 ++ y590 : List Int)).bind fun y594 => (if 0 ≤ (wrap64 ((ji31) + 1)) then (if (wrap64 ((ji31) + 1)) ≤ (t570.length : Int) then ((some (y578.drop ((wrap64 ((ji31) + 1)) : Int).toNat : List Int)).bind fun y597 => (if y594.length + y597.length < 17592186044416 then (if bt582.2.2 = true then ((impl_NetWhole.f kj8 t558 t559).bind fun t604 => ((impl_NetWhole.f kj8 t553 t554).bind fun t605 => (if (t604 == t605) = true then ((impl_NetFits.f kj8 t558 bt582.2.1 (y594 ++ y597)).bind fun t606 => (some t606)) else (some false)))) else (some false)) else (none))) else (none)) else (none))) else (none))) else (none)))))) else (none)) else (none)) else (none)) else (none)) = some r := by first | (rw [hji32] at H; exact H) | (simp only [hji32] at H ⊢; exact H)
                  (try rw [hji32] at A28)
                  have hji32_ : (if ((rd_T46 t554 t555).f1) < ((rd_T46 t554 t555).f0) then ((rd_T46 t554 t555).f1) else ((rd_T46 t554 t555).f0)) = ji32 := hji32
                  by_cases c33 : 0 ≤ (ji32)
                  · rw [if_pos c33] at H
                    have c33b0 : decide (0 ≤ (ji32)) = true := decide_eq_true c33
                    clear c33
                    by_cases c34 : (ji32) < (t570.length : Int)
                    · rw [if_pos c34] at H
                      have c34b0 : decide ((ji32) < (t570.length : Int)) = true := decide_eq_true c34
                      clear c34
                      by_cases c35 : 0 ≤ (ji31)
                      · rw [if_pos c35] at H
                        have c35b0 : decide (0 ≤ (ji31)) = true := decide_eq_true c35
                        clear c35
                        by_cases c36 : (ji31) < (t570.length : Int)
                        · rw [if_pos c36] at H
                          have c36b0 : decide ((ji31) < (t570.length : Int)) = true := decide_eq_true c36
                          clear c36
                          obtain ⟨y578, hy578⟩ : ∃ y_ : List Int, y_ = (t570.set ((ji31) : Int).toNat (rd t570 (ji32))) := ⟨_, rfl⟩
                          replace H : ((laws_fit.f kj8 t554 y578).bind fun t579 => ((impl_NetMerge.f t553 t579 t555).bind fun bt582 => ((some (([] : List Int) : List Int)).bind fun y587 => (if (ji31) ≤ (t570.length : Int) then ((some (y578.take ((ji31) : Int).toNat : List Int)).bind fun y590 => (if y587.length + y590.length < 17592186044416 then ((some (y587 ++ y590 : List Int)).bind fun y594 => (if 0 ≤ (wrap64 ((ji31) + 1)) then (if (wrap64 ((ji31) + 1)) ≤ (t570.length : Int) then ((some (y578.drop ((wrap64 ((ji31) + 1)) : Int).toNat : List Int)).bind fun y597 => (if y594.length + y597.length < 17592186044416 then (if bt582.2.2 = true then ((impl_NetWhole.f kj8 t558 t559).bind fun t604 => ((impl_NetWhole.f kj8 t553 t554).bind fun t605 => (if (t604 == t605) = true then ((impl_NetFits.f kj8 t558 bt582.2.1 (y594 ++ y597)).bind fun t606 => (some t606)) else (some false)))) else (some false)) else (none))) else (none)) else (none))) else (none))) else (none))))) = some r := by first | (rw [hy578]; with_reducible exact H) | (have H2_ := (Option.bind_some _ _).symm.trans H; rw [hy578]; with_reducible exact H2_) | (have H2_ := (Option.bind_some _ _).symm.trans H; with_reducible exact H2_) | with_reducible exact H | (rw [hy578]; exact H) | exact H
                          have Ny578 := Aside0.mk hy578
                          clear hy578
                          replace H := Option.bind_eq_some_iff.mp H
                          obtain ⟨t579, A380, H⟩ := H
                          replace H : ((impl_NetMerge.f t553 t579 t555).bind fun bt582 => ((some (([] : List Int) : List Int)).bind fun y587 => (if (ji31) ≤ (t570.length : Int) then ((some (y578.take ((ji31) : Int).toNat : List Int)).bind fun y590 => (if y587.length + y590.length < 17592186044416 then ((some (y587 ++ y590 : List Int)).bind fun y594 => (if 0 ≤ (wrap64 ((ji31) + 1)) then (if (wrap64 ((ji31) + 1)) ≤ (t570.length : Int) then ((some (y578.drop ((wrap64 ((ji31) + 1)) : Int).toNat : List Int)).bind fun y597 => (if y594.length + y597.length < 17592186044416 then (if bt582.2.2 = true then ((impl_NetWhole.f kj8 t558 t559).bind fun t604 => ((impl_NetWhole.f kj8 t553 t554).bind fun t605 => (if (t604 == t605) = true then ((impl_NetFits.f kj8 t558 bt582.2.1 (y594 ++ y597)).bind fun t606 => (some t606)) else (some false)))) else (some false)) else (none))) else (none)) else (none))) else (none))) else (none)))) = some r := H
                          have A38 := Aside0.mk A380
                          clear A380
                          replace H := Option.bind_eq_some_iff.mp H
                          obtain ⟨⟨t582, t583, t584⟩, A390, H⟩ := H
                          replace H : ((some (([] : List Int) : List Int)).bind fun y587 => (if (ji31) ≤ (t570.length : Int) then ((some (y578.take ((ji31) : Int).toNat : List Int)).bind fun y590 => (if y587.length + y590.length < 17592186044416 then ((some (y587 ++ y590 : List Int)).bind fun y594 => (if 0 ≤ (wrap64 ((ji31) + 1)) then (if (wrap64 ((ji31) + 1)) ≤ (t570.length : Int) then ((some (y578.drop ((wrap64 ((ji31) + 1)) : Int).toNat : List Int)).bind fun y597 => (if y594.length + y597.length < 17592186044416 then (if t584 = true then ((impl_NetWhole.f kj8 t558 t559).bind fun t604 => ((impl_NetWhole.f kj8 t553 t554).bind fun t605 => (if (t604 == t605) = true then ((impl_NetFits.f kj8 t558 t583 (y594 ++ y597)).bind fun t606 => (some t606)) else (some false)))) else (some false)) else (none))) else (none)) else (none))) else (none))) else (none))) = some r := H
                          have A39 := Aside0.mk A390
                          clear A390
                          obtain ⟨y587, hy587⟩ : ∃ y_ : List Int, y_ = (([] : List Int)) := ⟨_, rfl⟩
                          replace H : (if (ji31) ≤ (t570.length : Int) then ((some (y578.take ((ji31) : Int).toNat : List Int)).bind fun y590 => (if y587.length + y590.length < 17592186044416 then ((some (y587 ++ y590 : List Int)).bind fun y594 => (if 0 ≤ (wrap64 ((ji31) + 1)) then (if (wrap64 ((ji31) + 1)) ≤ (t570.length : Int) then ((some (y578.drop ((wrap64 ((ji31) + 1)) : Int).toNat : List Int)).bind fun y597 => (if y594.length + y597.length < 17592186044416 then (if t584 = true then ((impl_NetWhole.f kj8 t558 t559).bind fun t604 => ((impl_NetWhole.f kj8 t553 t554).bind fun t605 => (if (t604 == t605) = true then ((impl_NetFits.f kj8 t558 t583 (y594 ++ y597)).bind fun t606 => (some t606)) else (some false)))) else (some false)) else (none))) else (none)) else (none))) else (none))) else (none)) = some r := by first | (rw [hy587]; with_reducible exact H) | (have H2_ := (Option.bind_some _ _).symm.trans H; rw [hy587]; with_reducible exact H2_) | (have H2_ := (Option.bind_some _ _).symm.trans H; with_reducible exact H2_) | with_reducible exact H | (rw [hy587]; exact H) | exact H
                          have Ny587 := Aside0.mk hy587
                          clear hy587
                          have c40b0 := eq_true (of_decide_eq_true (by first | (with_reducible assumption) | assumption) : 0 ≤ (ji31))
                          by_cases c41 : (ji31) ≤ (t570.length : Int)
                          · rw [if_pos c41] at H
                            have c41b0 := eq_true c41
                            have c41b1 : decide ((ji31) ≤ (t570.length : Int)) = true := decide_eq_true c41
                            clear c41
                            obtain ⟨y590, hy590⟩ : ∃ y_ : List Int, y_ = (y578.take ((ji31) : Int).toNat) := ⟨_, rfl⟩
                            replace H : (if y587.length + y590.length < 17592186044416 then ((some (y587 ++ y590 : List Int)).bind fun y594 => (if 0 ≤ (wrap64 ((ji31) + 1)) then (if (wrap64 ((ji31) + 1)) ≤ (t570.length : Int) then ((some (y578.drop ((wrap64 ((ji31) + 1)) : Int).toNat : List Int)).bind fun y597 => (if y594.length + y597.length < 17592186044416 then (if t584 = true then ((impl_NetWhole.f kj8 t558 t559).bind fun t604 => ((impl_NetWhole.f kj8 t553 t554).bind fun t605 => (if (t604 == t605) = true then ((impl_NetFits.f kj8 t558 t583 (y594 ++ y597)).bind fun t606 => (some t606)) else (some false)))) else (some false)) else (none))) else (none)) else (none))) else (none)) = some r := by first | (rw [hy590]; with_reducible exact H) | (have H2_ := (Option.bind_some _ _).symm.trans H; rw [hy590]; with_reducible exact H2_) | (have H2_ := (Option.bind_some _ _).symm.trans H; with_reducible exact H2_) | with_reducible exact H | (rw [hy590]; exact H) | exact H
                            have Ny590 := Aside0.mk hy590
                            clear hy590
                            by_cases c42 : y587.length + y590.length < 17592186044416
                            · rw [if_pos c42] at H
                              have LMc42 := Aside0.mk c42
                              clear c42
                              obtain ⟨y594, hy594⟩ : ∃ y_ : List Int, y_ = (y587 ++ y590) := ⟨_, rfl⟩
                              replace H : (if 0 ≤ (wrap64 ((ji31) + 1)) then (if (wrap64 ((ji31) + 1)) ≤ (t570.length : Int) then ((some (y578.drop ((wrap64 ((ji31) + 1)) : Int).toNat : List Int)).bind fun y597 => (if y594.length + y597.length < 17592186044416 then (if t584 = true then ((impl_NetWhole.f kj8 t558 t559).bind fun t604 => ((impl_NetWhole.f kj8 t553 t554).bind fun t605 => (if (t604 == t605) = true then ((impl_NetFits.f kj8 t558 t583 (y594 ++ y597)).bind fun t606 => (some t606)) else (some false)))) else (some false)) else (none))) else (none)) else (none)) = some r := by first | (rw [hy594]; with_reducible exact H) | (have H2_ := (Option.bind_some _ _).symm.trans H; rw [hy594]; with_reducible exact H2_) | (have H2_ := (Option.bind_some _ _).symm.trans H; with_reducible exact H2_) | with_reducible exact H | (rw [hy594]; exact H) | exact H
                              have Ny594 := Aside0.mk hy594
                              clear hy594
                              obtain ⟨ji43, hji43⟩ : ∃ j_ : Int, (wrap64 ((ji31) + 1)) = j_ := ⟨_, rfl⟩
                              replace H : (if 0 ≤ (ji43) then (if (ji43) ≤ (t570.length : Int) then ((some (y578.drop ((ji43) : Int).toNat : List Int)).bind fun y597 => (if y594.length + y597.length < 17592186044416 then (if t584 = true then ((impl_NetWhole.f kj8 t558 t559).bind fun t604 => ((impl_NetWhole.f kj8 t553 t554).bind fun t605 => (if (t604 == t605) = true then ((impl_NetFits.f kj8 t558 t583 (y594 ++ y597)).bind fun t606 => (some t606)) else (some false)))) else (some false)) else (none))) else (none)) else (none)) = some r := by first | (rw [hji43] at H; exact H) | (simp only [hji43] at H ⊢; exact H)
                              (try rw [hji43] at A28)
                              (try rw [hji43] at A38)
                              (try rw [hji43] at A39)
                              have hji43w : (IntKind.i64.wrap ((ji31) + 1)) = ji43 := (i64_w _).trans hji43
                              by_cases c44 : 0 ≤ (ji43)
                              · rw [if_pos c44] at H
                                have c44b0 := eq_true c44
                                have c44b1 : decide (0 ≤ (ji43)) = true := decide_eq_true c44
                                clear c44
                                by_cases c45 : (ji43) ≤ (t570.length : Int)
                                · rw [if_pos c45] at H
                                  have c45b0 := eq_true c45
                                  have c45b1 : decide ((ji43) ≤ (t570.length : Int)) = true := decide_eq_true c45
                                  clear c45
                                  obtain ⟨y597, hy597⟩ : ∃ y_ : List Int, y_ = (y578.drop ((ji43) : Int).toNat) := ⟨_, rfl⟩
                                  replace H : (if y594.length + y597.length < 17592186044416 then (if t584 = true then ((impl_NetWhole.f kj8 t558 t559).bind fun t604 => ((impl_NetWhole.f kj8 t553 t554).bind fun t605 => (if (t604 == t605) = true then ((impl_NetFits.f kj8 t558 t583 (y594 ++ y597)).bind fun t606 => (some t606)) else (some false)))) else (some false)) else (none)) = some r := by first | (rw [hy597]; with_reducible exact H) | (have H2_ := (Option.bind_some _ _).symm.trans H; rw [hy597]; with_reducible exact H2_) | (have H2_ := (Option.bind_some _ _).symm.trans H; with_reducible exact H2_) | with_reducible exact H | (rw [hy597]; exact H) | exact H
                                  have Ny597 := Aside0.mk hy597
                                  clear hy597
                                  by_cases c46 : y594.length + y597.length < 17592186044416
                                  · rw [if_pos c46] at H
                                    have LMc46 := Aside0.mk c46
                                    clear c46
                                    obtain ⟨y601, hy601⟩ : ∃ y_ : List Int, y_ = (y594 ++ y597) := ⟨_, rfl⟩
                                    replace H : (if t584 = true then ((impl_NetWhole.f kj8 t558 t559).bind fun t604 => ((impl_NetWhole.f kj8 t553 t554).bind fun t605 => (if (t604 == t605) = true then ((impl_NetFits.f kj8 t558 t583 y601).bind fun t606 => (some t606)) else (some false)))) else (some false)) = some r := by first | (rw [hy601]; with_reducible exact H) | (have H2_ := (Option.bind_some _ _).symm.trans H; rw [hy601]; with_reducible exact H2_) | (have H2_ := (Option.bind_some _ _).symm.trans H; with_reducible exact H2_) | with_reducible exact H | (rw [hy601]; exact H) | exact H
                                    have Ny601 := Aside0.mk hy601
                                    clear hy601
                                    by_cases c47 : t584 = true
                                    · subst c47
                                      have H1 : ((impl_NetWhole.f kj8 t558 t559).bind fun t604 => ((impl_NetWhole.f kj8 t553 t554).bind fun t605 => (if (t604 == t605) = true then ((impl_NetFits.f kj8 t558 t583 y601).bind fun t606 => (some t606)) else (some false)))) = some r := by rw [if_pos rfl] at H; exact H
                                      clear H
                                      have H := H1
                                      clear H1
                                      replace H := Option.bind_eq_some_iff.mp H
                                      obtain ⟨t604, A480, H⟩ := H
                                      replace H : ((impl_NetWhole.f kj8 t553 t554).bind fun t605 => (if (t604 == t605) = true then ((impl_NetFits.f kj8 t558 t583 y601).bind fun t606 => (some t606)) else (some false))) = some r := H
                                      have A48 := Aside0.mk A480
                                      clear A480
                                      replace H := Option.bind_eq_some_iff.mp H
                                      obtain ⟨t605, A490, H⟩ := H
                                      replace H : (if (t604 == t605) = true then ((impl_NetFits.f kj8 t558 t583 y601).bind fun t606 => (some t606)) else (some false)) = some r := H
                                      have A49 := Aside0.mk A490
                                      clear A490
                                      by_cases c50 : (t604 == t605) = true
                                      · rw [if_pos c50] at H
                                        have c50b0 : (t604 == t605) = true := c50
                                        (try (have c50b1 : decide (t604 = t605) = true := by simpa using c50))
                                        (try (have c50b2 : (t604 == t605) = true := by simpa using c50))
                                        clear c50
                                        replace H := Option.bind_eq_some_iff.mp H
                                        obtain ⟨t606, A510, H⟩ := H
                                        replace H : (some t606) = some r := H
                                        have A51 := Aside0.mk A510
                                        clear A510
                                        obtain rfl := Option.some.inj H
                                        try go_wp2_with (first | ((with_reducible refine gate_callee (f := 31) rfl ?_); refine goesL_ (some 85) rfl rfl Try.func31 (by kernel_rfl) rfl #[.int .i64 t553, .int .i64 (l1.length : Int)] rfl (by (try simp only [List.map_toArray, List.map_cons, List.map_nil]); first | done | rfl | (simp only [List.length_drop, List.length_take]; rfl)) ?_; (with_reducible refine (laws_some.calls kj8 t553 (l1.length : Int) t570 _ A28.out).mono ?_); rintro e w52 ⟨v571, rfl, ho0, hb⟩; refine ⟨_, rfl, ?_⟩; have n0_ := Aside0.mk (Kd.R_below (by (with_reducible repeat (first | apply Kd.R_alloc | apply Kd.R_drewN | apply Kd.R_drew)); exact HO_6.out) hb); have n1_ := Aside0.mk (Kd.R_below (by (with_reducible repeat (first | apply Kd.R_alloc | apply Kd.R_drewN | apply Kd.R_drew)); exact HO_9.out) hb); have n2_ := Aside0.mk (Kd.R_below (by (with_reducible repeat (first | apply Kd.R_alloc | apply Kd.R_drewN | apply Kd.R_drew)); exact HO_12.out) hb); have n3_ := Aside0.mk (Kd.R_lower ho0 (below_size (by repeat (first | (with_reducible first | exact HB.out | apply below_alloc | apply pw_below_drewN | apply below_drew1) | exact HB.out)))); have n4_ := Aside0.mk (below_step (by repeat (first | (with_reducible first | exact HB.out | apply below_alloc | apply pw_below_drewN | apply below_drew1) | exact HB.out)) hb); clear HO_6; clear HO_9; clear HO_12; clear HB; have HO_6 := n0_; have HO_9 := n1_; have HO_12 := n2_; have HO572 := n3_; have HB := n4_; clear n0_ n1_ n2_ n3_ n4_; (try clear hb); (try clear hb2); (try clear hk); (try clear hi); (try clear ho0)))
                                        have n0_ := Aside0.mk (Kd.R_drew HO_6.out)
                                        have n1_ := Aside0.mk (Kd.R_drew HO_9.out)
                                        have n2_ := Aside0.mk (Kd.R_drew HO_12.out)
                                        have n3_ := Aside0.mk (Kd.R_drew HO572.out)
                                        have n4_ := Aside0.mk (below_drew1 HB.out)
                                        clear HO_6
                                        clear HO_9
                                        clear HO_12
                                        clear HO572
                                        clear HB
                                        have HO_6 := n0_
                                        have HO_9 := n1_
                                        have HO_12 := n2_
                                        have HO572 := n3_
                                        have HB := n4_
                                        clear n0_ n1_ n2_ n3_ n4_
                                        have p573 : 0 ≤ (t555 : Int) := of_decide_eq_true (by first | (with_reducible assumption) | assumption)
                                        have q573 : t555 < (t554.length : Int) := of_decide_eq_true (by first | (with_reducible assumption) | assumption)
                                        obtain ⟨ad573, e573, hx573_0, hx573_1, hx573_2, hx573_3⟩ := at_T46 (Kd.R_reads' HO_6.out).2.2 t555 p573 q573
                                        cases e573
                                        replace p573 := eq_true p573
                                        replace q573 := eq_true q573
                                        have p574 : 0 ≤ (t555 : Int) := of_decide_eq_true (by first | (with_reducible assumption) | assumption)
                                        have q574 : t555 < (t554.length : Int) := of_decide_eq_true (by first | (with_reducible assumption) | assumption)
                                        obtain ⟨ad574, e574, hx574_0, hx574_1, hx574_2, hx574_3⟩ := at_T46 (Kd.R_reads' HO_6.out).2.2 t555 p574 q574
                                        obtain rfl : ad573 = ad574 := (by injection e574)
                                        replace p574 := eq_true p574
                                        replace q574 := eq_true q574
                                        refine start_ (n := 12) (S := fun w' => w'.cell? (ad573.add ((t555).toNat * 4)) = some (.int .i64 ((rd_T46 t554 t555).f0)) ∧ w'.cell? ⟨(ad573.add ((t555).toNat * 4)).block, (ad573.add ((t555).toNat * 4)).off + 1, none⟩ = some (.int .i64 ((rd_T46 t554 t555).f1)) ∧ w'.cell? ⟨(ad573.add ((t555).toNat * 4)).block, (ad573.add ((t555).toNat * 4)).off + 2, none⟩ = some (.int .i64 ((rd_T46 t554 t555).f2)) ∧ w'.cell? ⟨(ad573.add ((t555).toNat * 4)).block, (ad573.add ((t555).toNat * 4)).off + 3, none⟩ = some (.int .i64 ((rd_T46 t554 t555).f3)) ∧ w'.cell? (ad573.add ((t555).toNat * 4)) = some (.int .i64 ((rd_T46 t554 t555).f0)) ∧ w'.cell? ⟨(ad573.add ((t555).toNat * 4)).block, (ad573.add ((t555).toNat * 4)).off + 1, none⟩ = some (.int .i64 ((rd_T46 t554 t555).f1)) ∧ w'.cell? ⟨(ad573.add ((t555).toNat * 4)).block, (ad573.add ((t555).toNat * 4)).off + 2, none⟩ = some (.int .i64 ((rd_T46 t554 t555).f2)) ∧ w'.cell? ⟨(ad573.add ((t555).toNat * 4)).block, (ad573.add ((t555).toNat * 4)).off + 3, none⟩ = some (.int .i64 ((rd_T46 t554 t555).f3))) (ds := []) #[false, false, false, false, false, false, false, false, false, false, false, false] (by kernel_rfl) rfl rfl ⟨hx573_0, hx573_1, hx573_2, hx573_3, hx574_0, hx574_1, hx574_2, hx574_3⟩ (fun hHeld => ?_); refine with_tabW laws_FnTreesMerge.tab9 laws_FnTreesMerge.bits9 (fun HT_ HW_ => ?_)
                                        generalize w52.drew = w53 at HO_6 HO_9 HO_12 HO572 HB hx573_0 hx573_1 hx573_2 hx573_3 hx574_0 hx574_1 hx574_2 hx574_3 hHeld ⊢
                                        refine pure_ (i := 0) (N := some 86) (v := ?_) (a' := ?_) #[true, false, false, false, false, false, false, false, false, false, false, false] rfl rfl (any_of HT_.out (by kernel_rfl)) (fun _ _ _ h => h) (Or.inl ⟨by rfl, ?_⟩) ?_ ?_
                                        rotate_left
                                        · intro w'
                                          go_simp
                                          with_reducible rfl
                                        rotate_left
                                        · simp only [Act.put, List.setIfInBounds_toArray, List.set_cons_zero, List.set_cons_succ, i64_w, i32_w]
                                          rfl
                                        refine pure_ (i := 1) (N := some 87) (v := ?_) (a' := ?_) #[true, true, false, false, false, false, false, false, false, false, false, false] rfl rfl (any_of HT_.out (by kernel_rfl)) (fun _ _ _ h => h) (Or.inl ⟨by rfl, ?_⟩) ?_ ?_
                                        rotate_left
                                        · intro w'
                                          go_simp
                                          with_reducible rfl
                                        rotate_left
                                        · simp only [Act.put, List.setIfInBounds_toArray, List.set_cons_zero, List.set_cons_succ, i64_w, i32_w]
                                          rfl
                                        refine pure_ (i := 2) (N := some 88) (v := ?_) (a' := ?_) #[true, true, true, false, false, false, false, false, false, false, false, false] rfl rfl (any_of HT_.out (by kernel_rfl)) (fun _ _ _ h => h) (Or.inl ⟨by rfl, ?_⟩) ?_ ?_
                                        rotate_left
                                        · intro w'
                                          go_simp
                                          with_reducible rfl
                                        rotate_left
                                        · simp only [Act.put, List.setIfInBounds_toArray, List.set_cons_zero, List.set_cons_succ, i64_w, i32_w]
                                          rfl
                                        refine pure_ (i := 3) (N := some 89) (v := ?_) (a' := ?_) #[true, true, true, true, false, false, false, false, false, false, false, false] rfl rfl (any_of HT_.out (by kernel_rfl)) (fun _ _ _ h => h) (Or.inl ⟨by rfl, ?_⟩) ?_ ?_
                                        rotate_left
                                        · intro w'
                                          go_simp
                                          with_reducible rfl
                                        rotate_left
                                        · simp only [Act.put, List.setIfInBounds_toArray, List.set_cons_zero, List.set_cons_succ, i64_w, i32_w]
                                          rfl
                                        refine pure_ (i := 5) (N := some 91) (v := ?_) (a' := ?_) #[true, true, true, true, false, true, false, false, false, false, false, false] rfl rfl (any_of HT_.out (by kernel_rfl)) (fun _ _ _ h => h) (Or.inl ⟨by rfl, ?_⟩) ?_ ?_
                                        rotate_left
                                        · intro w'
                                          go_simp
                                          with_reducible rfl
                                        rotate_left
                                        · simp only [Act.put, List.setIfInBounds_toArray, List.set_cons_zero, List.set_cons_succ, i64_w, i32_w]
                                          rfl
                                        refine pure_ (i := 6) (N := some 92) (v := ?_) (a' := ?_) #[true, true, true, true, false, true, true, false, false, false, false, false] rfl rfl (any_of HT_.out (by kernel_rfl)) (fun _ _ _ h => h) (Or.inl ⟨by rfl, ?_⟩) ?_ ?_
                                        rotate_left
                                        · intro w'
                                          go_simp
                                          with_reducible rfl
                                        rotate_left
                                        · simp only [Act.put, List.setIfInBounds_toArray, List.set_cons_zero, List.set_cons_succ, i64_w, i32_w]
                                          rfl
                                        refine pure_ (i := 7) (N := some 93) (v := ?_) (a' := ?_) #[true, true, true, true, false, true, true, true, false, false, false, false] rfl rfl (any_of HT_.out (by kernel_rfl)) (fun _ _ _ h => h) (Or.inl ⟨by rfl, ?_⟩) ?_ ?_
                                        rotate_left
                                        · intro w'
                                          go_simp
                                          with_reducible rfl
                                        rotate_left
                                        · simp only [Act.put, List.setIfInBounds_toArray, List.set_cons_zero, List.set_cons_succ, i64_w, i32_w]
                                          rfl
                                        refine pure_ (i := 8) (N := some 94) (v := ?_) (a' := ?_) #[true, true, true, true, false, true, true, true, true, false, false, false] rfl rfl (any_of HT_.out (by kernel_rfl)) (fun _ _ _ h => h) (Or.inl ⟨by rfl, ?_⟩) ?_ ?_
                                        rotate_left
                                        · intro w'
                                          go_simp
                                          with_reducible rfl
                                        rotate_left
                                        · simp only [Act.put, List.setIfInBounds_toArray, List.set_cons_zero, List.set_cons_succ, i64_w, i32_w]
                                          rfl
                                        refine take_ (i := 4) (N := some 90) (v := ?_) (a' := ?_) #[true, true, true, true, true, true, true, true, true, false, false, false] rfl rfl (take_ofW HT_.out HW_.out (by kernel_rfl)) (fun _ _ _ h => h) (Or.inl ⟨by rfl, ?_⟩) hHeld ?_ ?_
                                        rotate_left
                                        · rintro w' ⟨s0, s1, s2, s3, s4, s5, s6, s7⟩
                                          go_simp
                                          with_reducible rfl
                                        rotate_left
                                        · simp only [Act.put, List.setIfInBounds_toArray, List.set_cons_zero, List.set_cons_succ, i64_w, i32_w]
                                          rfl
                                        refine take_ (i := 9) (N := some 95) (v := ?_) (a' := ?_) #[true, true, true, true, true, true, true, true, true, true, false, false] rfl rfl (take_ofW HT_.out HW_.out (by kernel_rfl)) (fun _ _ _ h => h) (Or.inl ⟨by rfl, ?_⟩) hHeld ?_ ?_
                                        rotate_left
                                        · rintro w' ⟨s0, s1, s2, s3, s4, s5, s6, s7⟩
                                          go_simp
                                          with_reducible rfl
                                        rotate_left
                                        · simp only [Act.put, List.setIfInBounds_toArray, List.set_cons_zero, List.set_cons_succ, i64_w, i32_w]
                                          rfl
                                        refine pure_ (i := 10) (N := some 96) (v := ?_) (a' := ?_) #[true, true, true, true, true, true, true, true, true, true, true, false] rfl rfl (any_of HT_.out (by kernel_rfl)) (fun _ _ _ h => h) (Or.inl ⟨by rfl, ?_⟩) ?_ ?_
                                        rotate_left
                                        · intro w'
                                          go_simp
                                          with_reducible rfl
                                        rotate_left
                                        · simp only [Act.put, List.setIfInBounds_toArray, List.set_cons_zero, List.set_cons_succ, i64_w, i32_w]
                                          rfl
                                        refine pure_ (i := 11) (N := some 15) (v := ?_) (a' := ?_) #[true, true, true, true, true, true, true, true, true, true, true, true] rfl rfl (any_of HT_.out (by kernel_rfl)) (fun _ _ _ h => h) (Or.inl ⟨by rfl, ?_⟩) ?_ ?_
                                        rotate_left
                                        · intro w'
                                          go_simp
                                          with_reducible rfl
                                        rotate_left
                                        · simp only [Act.put, List.setIfInBounds_toArray, List.set_cons_zero, List.set_cons_succ, i64_w, i32_w]
                                          rfl
                                        refine done_ (done_of HT_.out (by kernel_rfl)) ?_
                                        try go_wp2
                                        have n0_ := Aside0.mk (Kd.R_drew HO_6.out)
                                        have n1_ := Aside0.mk (Kd.R_drew HO_9.out)
                                        have n2_ := Aside0.mk (Kd.R_drew HO_12.out)
                                        have n3_ := Aside0.mk (Kd.R_drew HO572.out)
                                        have n4_ := Aside0.mk (below_drew1 HB.out)
                                        clear HO_6
                                        clear HO_9
                                        clear HO_12
                                        clear HO572
                                        clear HB
                                        have HO_6 := n0_
                                        have HO_9 := n1_
                                        have HO_12 := n2_
                                        have HO572 := n3_
                                        have HB := n4_
                                        clear n0_ n1_ n2_ n3_ n4_
                                        have p575 : 0 ≤ (t555 : Int) := of_decide_eq_true (by first | (with_reducible assumption) | assumption)
                                        have q575 : t555 < (t554.length : Int) := of_decide_eq_true (by first | (with_reducible assumption) | assumption)
                                        obtain ⟨ad575, e575, hx575_0, hx575_1, hx575_2, hx575_3⟩ := at_T46 (Kd.R_reads' HO_6.out).2.2 t555 p575 q575
                                        obtain rfl : ad573 = ad575 := (by injection e575)
                                        replace p575 := eq_true p575
                                        replace q575 := eq_true q575
                                        have p576 : 0 ≤ (t555 : Int) := of_decide_eq_true (by first | (with_reducible assumption) | assumption)
                                        have q576 : t555 < (t554.length : Int) := of_decide_eq_true (by first | (with_reducible assumption) | assumption)
                                        obtain ⟨ad576, e576, hx576_0, hx576_1, hx576_2, hx576_3⟩ := at_T46 (Kd.R_reads' HO_6.out).2.2 t555 p576 q576
                                        obtain rfl : ad573 = ad576 := (by injection e576)
                                        replace p576 := eq_true p576
                                        replace q576 := eq_true q576
                                        refine start_ (n := 12) (S := fun w' => w'.cell? (ad573.add ((t555).toNat * 4)) = some (.int .i64 ((rd_T46 t554 t555).f0)) ∧ w'.cell? ⟨(ad573.add ((t555).toNat * 4)).block, (ad573.add ((t555).toNat * 4)).off + 1, none⟩ = some (.int .i64 ((rd_T46 t554 t555).f1)) ∧ w'.cell? ⟨(ad573.add ((t555).toNat * 4)).block, (ad573.add ((t555).toNat * 4)).off + 2, none⟩ = some (.int .i64 ((rd_T46 t554 t555).f2)) ∧ w'.cell? ⟨(ad573.add ((t555).toNat * 4)).block, (ad573.add ((t555).toNat * 4)).off + 3, none⟩ = some (.int .i64 ((rd_T46 t554 t555).f3)) ∧ w'.cell? (ad573.add ((t555).toNat * 4)) = some (.int .i64 ((rd_T46 t554 t555).f0)) ∧ w'.cell? ⟨(ad573.add ((t555).toNat * 4)).block, (ad573.add ((t555).toNat * 4)).off + 1, none⟩ = some (.int .i64 ((rd_T46 t554 t555).f1)) ∧ w'.cell? ⟨(ad573.add ((t555).toNat * 4)).block, (ad573.add ((t555).toNat * 4)).off + 2, none⟩ = some (.int .i64 ((rd_T46 t554 t555).f2)) ∧ w'.cell? ⟨(ad573.add ((t555).toNat * 4)).block, (ad573.add ((t555).toNat * 4)).off + 3, none⟩ = some (.int .i64 ((rd_T46 t554 t555).f3))) (ds := []) #[false, false, false, false, false, false, false, false, false, false, false, false] (by kernel_rfl) rfl rfl ⟨hx575_0, hx575_1, hx575_2, hx575_3, hx576_0, hx576_1, hx576_2, hx576_3⟩ (fun hHeld => ?_); refine with_tabW laws_FnTreesMerge.tab10 laws_FnTreesMerge.bits10 (fun HT_ HW_ => ?_)
                                        generalize w53.drew = w54 at HO_6 HO_9 HO_12 HO572 HB hx575_0 hx575_1 hx575_2 hx575_3 hx576_0 hx576_1 hx576_2 hx576_3 hHeld ⊢
                                        refine pure_ (i := 0) (N := some 97) (v := ?_) (a' := ?_) #[true, false, false, false, false, false, false, false, false, false, false, false] rfl rfl (any_of HT_.out (by kernel_rfl)) (fun _ _ _ h => h) (Or.inl ⟨by rfl, ?_⟩) ?_ ?_
                                        rotate_left
                                        · intro w'
                                          go_simp
                                          with_reducible rfl
                                        rotate_left
                                        · simp only [Act.put, List.setIfInBounds_toArray, List.set_cons_zero, List.set_cons_succ, i64_w, i32_w]
                                          rfl
                                        refine pure_ (i := 1) (N := some 98) (v := ?_) (a' := ?_) #[true, true, false, false, false, false, false, false, false, false, false, false] rfl rfl (any_of HT_.out (by kernel_rfl)) (fun _ _ _ h => h) (Or.inl ⟨by rfl, ?_⟩) ?_ ?_
                                        rotate_left
                                        · intro w'
                                          go_simp
                                          with_reducible rfl
                                        rotate_left
                                        · simp only [Act.put, List.setIfInBounds_toArray, List.set_cons_zero, List.set_cons_succ, i64_w, i32_w]
                                          rfl
                                        refine pure_ (i := 2) (N := some 99) (v := ?_) (a' := ?_) #[true, true, true, false, false, false, false, false, false, false, false, false] rfl rfl (any_of HT_.out (by kernel_rfl)) (fun _ _ _ h => h) (Or.inl ⟨by rfl, ?_⟩) ?_ ?_
                                        rotate_left
                                        · intro w'
                                          go_simp
                                          with_reducible rfl
                                        rotate_left
                                        · simp only [Act.put, List.setIfInBounds_toArray, List.set_cons_zero, List.set_cons_succ, i64_w, i32_w]
                                          rfl
                                        refine pure_ (i := 3) (N := some 100) (v := ?_) (a' := ?_) #[true, true, true, true, false, false, false, false, false, false, false, false] rfl rfl (any_of HT_.out (by kernel_rfl)) (fun _ _ _ h => h) (Or.inl ⟨by rfl, ?_⟩) ?_ ?_
                                        rotate_left
                                        · intro w'
                                          go_simp
                                          with_reducible rfl
                                        rotate_left
                                        · simp only [Act.put, List.setIfInBounds_toArray, List.set_cons_zero, List.set_cons_succ, i64_w, i32_w]
                                          rfl
                                        refine pure_ (i := 5) (N := some 102) (v := ?_) (a' := ?_) #[true, true, true, true, false, true, false, false, false, false, false, false] rfl rfl (any_of HT_.out (by kernel_rfl)) (fun _ _ _ h => h) (Or.inl ⟨by rfl, ?_⟩) ?_ ?_
                                        rotate_left
                                        · intro w'
                                          go_simp
                                          with_reducible rfl
                                        rotate_left
                                        · simp only [Act.put, List.setIfInBounds_toArray, List.set_cons_zero, List.set_cons_succ, i64_w, i32_w]
                                          rfl
                                        refine pure_ (i := 6) (N := some 103) (v := ?_) (a' := ?_) #[true, true, true, true, false, true, true, false, false, false, false, false] rfl rfl (any_of HT_.out (by kernel_rfl)) (fun _ _ _ h => h) (Or.inl ⟨by rfl, ?_⟩) ?_ ?_
                                        rotate_left
                                        · intro w'
                                          go_simp
                                          with_reducible rfl
                                        rotate_left
                                        · simp only [Act.put, List.setIfInBounds_toArray, List.set_cons_zero, List.set_cons_succ, i64_w, i32_w]
                                          rfl
                                        refine pure_ (i := 7) (N := some 104) (v := ?_) (a' := ?_) #[true, true, true, true, false, true, true, true, false, false, false, false] rfl rfl (any_of HT_.out (by kernel_rfl)) (fun _ _ _ h => h) (Or.inl ⟨by rfl, ?_⟩) ?_ ?_
                                        rotate_left
                                        · intro w'
                                          go_simp
                                          with_reducible rfl
                                        rotate_left
                                        · simp only [Act.put, List.setIfInBounds_toArray, List.set_cons_zero, List.set_cons_succ, i64_w, i32_w]
                                          rfl
                                        refine pure_ (i := 8) (N := some 105) (v := ?_) (a' := ?_) #[true, true, true, true, false, true, true, true, true, false, false, false] rfl rfl (any_of HT_.out (by kernel_rfl)) (fun _ _ _ h => h) (Or.inl ⟨by rfl, ?_⟩) ?_ ?_
                                        rotate_left
                                        · intro w'
                                          go_simp
                                          with_reducible rfl
                                        rotate_left
                                        · simp only [Act.put, List.setIfInBounds_toArray, List.set_cons_zero, List.set_cons_succ, i64_w, i32_w]
                                          rfl
                                        refine take_ (i := 4) (N := some 101) (v := ?_) (a' := ?_) #[true, true, true, true, true, true, true, true, true, false, false, false] rfl rfl (take_ofW HT_.out HW_.out (by kernel_rfl)) (fun _ _ _ h => h) (Or.inl ⟨by rfl, ?_⟩) hHeld ?_ ?_
                                        rotate_left
                                        · rintro w' ⟨s0, s1, s2, s3, s4, s5, s6, s7⟩
                                          go_simp
                                          with_reducible rfl
                                        rotate_left
                                        · simp only [Act.put, List.setIfInBounds_toArray, List.set_cons_zero, List.set_cons_succ, i64_w, i32_w]
                                          rfl
                                        refine take_ (i := 9) (N := some 106) (v := ?_) (a' := ?_) #[true, true, true, true, true, true, true, true, true, true, false, false] rfl rfl (take_ofW HT_.out HW_.out (by kernel_rfl)) (fun _ _ _ h => h) (Or.inl ⟨by rfl, ?_⟩) hHeld ?_ ?_
                                        rotate_left
                                        · rintro w' ⟨s0, s1, s2, s3, s4, s5, s6, s7⟩
                                          go_simp
                                          with_reducible rfl
                                        rotate_left
                                        · simp only [Act.put, List.setIfInBounds_toArray, List.set_cons_zero, List.set_cons_succ, i64_w, i32_w]
                                          rfl
                                        refine pure_ (i := 10) (N := some 107) (v := ?_) (a' := ?_) #[true, true, true, true, true, true, true, true, true, true, true, false] rfl rfl (any_of HT_.out (by kernel_rfl)) (fun _ _ _ h => h) (Or.inl ⟨by rfl, ?_⟩) ?_ ?_
                                        rotate_left
                                        · intro w'
                                          go_simp
                                          with_reducible rfl
                                        rotate_left
                                        · simp only [Act.put, List.setIfInBounds_toArray, List.set_cons_zero, List.set_cons_succ, i64_w, i32_w]
                                          rfl
                                        refine pure_ (i := 11) (N := some 16) (v := ?_) (a' := ?_) #[true, true, true, true, true, true, true, true, true, true, true, true] rfl rfl (any_of HT_.out (by kernel_rfl)) (fun _ _ _ h => h) (Or.inl ⟨by rfl, ?_⟩) ?_ ?_
                                        rotate_left
                                        · intro w'
                                          go_simp
                                          with_reducible rfl
                                        rotate_left
                                        · simp only [Act.put, List.setIfInBounds_toArray, List.set_cons_zero, List.set_cons_succ, i64_w, i32_w]
                                          rfl
                                        refine done_ (done_of HT_.out (by kernel_rfl)) ?_
                                        obtain ⟨Ao55, co55, eo55⟩ := Kd.R_slice HO572.out
                                        subst eo55
                                        have p577 : 0 ≤ ((ji32) : Int) := of_decide_eq_true (by first | (with_reducible assumption) | assumption)
                                        have q577 : (ji32) < (t570.length : Int) := of_decide_eq_true (by first | (with_reducible assumption) | assumption)
                                        obtain ⟨ad577, e577, hx577_0⟩ := Kd.at_int (Kd.R_reads' HO572.out).2.2 (ji32) p577 q577
                                        cases e577
                                        replace p577 := eq_true p577
                                        replace q577 := eq_true q577
                                        have p37 : 0 ≤ ((ji31) : Int) := of_decide_eq_true (by first | (with_reducible assumption) | assumption)
                                        have q37 : ((ji31) : Int) < ((t570.length : Int) : Int) := of_decide_eq_true (by first | (with_reducible assumption) | assumption)
                                        obtain ⟨go37, co37, eo37, gb37, gl37, cl37, HG37⟩ := Kd.R_form HO572.out (by omega)
                                        (first | cases eo37 | (injection eo37 with ea_ en_ ec_; (first | subst ea_ | (injection ea_ with ea_; subst ea_)); subst ec_; clear en_))
                                        have GB37 := Aside0.mk gb37
                                        have GG37 := Aside0.mk HG37
                                        clear gb37 gl37 HG37
                                        (first | simp only [add_plain] at hx577_0 | skip)
                                        obtain ⟨hx37_0, hf37_0⟩ := Kd.R_celln 0 HO572.out ((ji31) : Int) p37 q37
                                        replace p37 := eq_true p37
                                        replace q37 := eq_true q37
                                        obtain ⟨hy56_, hz56_⟩ := Kd.R_celln 0 HO572.out ((ji31) : Int) (of_decide_eq_true (by first | (with_reducible assumption) | assumption)) (of_decide_eq_true (by first | (with_reducible assumption) | assumption))
                                        have HP56 := Kd.R_putg HO572.out ((ji31) : Int) (rd t570 (ji32))
                                        try go_wp2_with (first | ((with_reducible refine gate_store (t := 3) (p := 114) rfl ?_); refine store_event (t := 3) (p := 114) (v := ?vo_w57) (w1 := (w54.setCell ⟨go37, ((ji31) : Int).toNat, none⟩ (.int .i64 (rd t570 (ji32))))) ?hg ?ho ?hn ?hr ?_; (case ho => rfl); (case hg => rfl); (case hn => rfl); (case hr => first | (go_simp; done) | (go_simp; rfl)); intro w57 hw; have hg : w54.grownBy w57 (some go37) := (by rw [hw]; exact HP56.2); have hp_ : Kd.R (Kd.int .i64) 3 w57 w.heap.size (fun _ => True) (.slice (some ⟨go37, 0, none⟩) t570.length co55) y578 := (by rw [hw, Ny578.out]; exact HP56.1); clear HP56; have n0_ := Aside0.mk (Kd.R_over' (v := (.slice (some ⟨go37, 0, none⟩) t570.length co55)) (by (with_reducible repeat (first | apply Kd.R_alloc | apply Kd.R_drewN | apply Kd.R_drew)); exact HO_6.out) (Kd.R_typed HO572.out) (by decide) hg); have n1_ := Aside0.mk (Kd.R_over' (v := (.slice (some ⟨go37, 0, none⟩) t570.length co55)) (by (with_reducible repeat (first | apply Kd.R_alloc | apply Kd.R_drewN | apply Kd.R_drew)); exact HO_9.out) (Kd.R_typed HO572.out) (by decide) hg); have n2_ := Aside0.mk (Kd.R_over' (v := (.slice (some ⟨go37, 0, none⟩) t570.length co55)) (by (with_reducible repeat (first | apply Kd.R_alloc | apply Kd.R_drewN | apply Kd.R_drew)); exact HO_12.out) (Kd.R_typed HO572.out) (by decide) hg); have n3_ := Aside0.mk (hp_); have n4_ := Aside0.mk ((by rw [hw]; exact below_set (HB.out) GB37.out : Below w.heap.size w w57)); clear HO_6; clear HO_9; clear HO_12; clear HO572; clear HB; have HO_6 := n0_; have HO_9 := n1_; have HO_12 := n2_; have HO572 := n3_; have HB := n4_; clear n0_ n1_ n2_ n3_ n4_; clear hg hw hp_) | ((with_reducible refine gate_callee (f := 32) rfl ?_); refine goesL_ (some 119) rfl rfl Try.func32 (by kernel_rfl) rfl #[.slice (some ad573) t554.length co11, .slice (some ⟨go37, 0, none⟩) y578.length co55] rfl (by (try simp only [List.map_toArray, List.map_cons, List.map_nil]); first | done | (rw [show y578.length = t570.length from (Kd.R_reads' HO572.out).1.symm] <;> rfl) | rfl | (simp only [List.length_drop, List.length_take]; rfl)) ?_; (with_reducible refine (laws_fit.calls kj8 _ _ t554 _ _ y578 t579 _ ?side1 ?side2 ?side3 ?side4 A38.out).mono ?_); (case side1 => repeat (first | exact (Kd.R_reads' HO_6.out).2.2 | (with_reducible refine Kd.C_alloc ?_ _) | (with_reducible refine Kd.C_drewN ?_ _) | (with_reducible refine Kd.C_drew ?_))); (case side2 => exact (Kd.R_reads' HO_6.out).2.1); (case side3 => repeat (first | exact (Kd.R_reads' HO572.out).2.2 | (with_reducible refine Kd.C_alloc ?_ _) | (with_reducible refine Kd.C_drewN ?_ _) | (with_reducible refine Kd.C_drew ?_))); (case side4 => rw [show y578.length = t570.length from (Kd.R_reads' HO572.out).1.symm]; exact (Kd.R_reads' HO572.out).2.1); rintro e w58 ⟨v580, rfl, ho0, hb⟩; refine ⟨_, rfl, ?_⟩; have n0_ := Aside0.mk (Kd.R_elder' (by (with_reducible repeat (first | apply Kd.R_alloc | apply Kd.R_drewN | apply Kd.R_drew)); exact HO_6.out) (Kd.R_base ho0) hb); have n1_ := Aside0.mk (Kd.R_elder' (by (with_reducible repeat (first | apply Kd.R_alloc | apply Kd.R_drewN | apply Kd.R_drew)); exact HO_9.out) (Kd.R_base ho0) hb); have n2_ := Aside0.mk (Kd.R_elder' (by (with_reducible repeat (first | apply Kd.R_alloc | apply Kd.R_drewN | apply Kd.R_drew)); exact HO_12.out) (Kd.R_base ho0) hb); have n3_ := Aside0.mk (Kd.R_below (by (with_reducible repeat (first | apply Kd.R_alloc | apply Kd.R_drewN | apply Kd.R_drew)); exact HO572.out) hb); have n4_ := Aside0.mk (Kd.R_lower (Kd.R_new' (Kd.R_new' (Kd.R_new' ho0 (Kd.R_lt (by (with_reducible repeat (first | apply Kd.R_alloc | apply Kd.R_drewN | apply Kd.R_drew)); exact HO_6.out))) (Kd.R_lt (by (with_reducible repeat (first | apply Kd.R_alloc | apply Kd.R_drewN | apply Kd.R_drew)); exact HO_9.out))) (Kd.R_lt (by (with_reducible repeat (first | apply Kd.R_alloc | apply Kd.R_drewN | apply Kd.R_drew)); exact HO_12.out))) (below_size (by repeat (first | (with_reducible first | exact HB.out | apply below_alloc | apply pw_below_drewN | apply below_drew1) | exact HB.out)))); have n5_ := Aside0.mk (below_step (by repeat (first | (with_reducible first | exact HB.out | apply below_alloc | apply pw_below_drewN | apply below_drew1) | exact HB.out)) hb); clear HO_6; clear HO_9; clear HO_12; clear HO572; clear HB; have HO_6 := n0_; have HO_9 := n1_; have HO_12 := n2_; have HO572 := n3_; have HO581 := n4_; have HB := n5_; clear n0_ n1_ n2_ n3_ n4_ n5_; (try clear hb); (try clear hb2); (try clear hk); (try clear hi); (try clear ho0); obtain ⟨Ao59, co59, eo59⟩ := Kd.R_slice HO581.out; subst eo59) | ((with_reducible refine gate_callee (f := 25) rfl ?_); refine goesL_ (some 121) rfl rfl Try.func25 (by kernel_rfl) rfl #[.int .i64 t553, .slice Ao59 t579.length co59, .int .i64 t555] rfl (by (try simp only [List.map_toArray, List.map_cons, List.map_nil]); first | done | rfl | (simp only [List.length_drop, List.length_take]; rfl)) ?_; (with_reducible refine (impl_NetMerge.calls t553 _ _ t579 t555 t582 t583 true _ ?side1 ?side2 A39.out).mono ?_); (case side1 => repeat (first | exact (Kd.R_reads' HO581.out).2.2 | (with_reducible refine Kd.C_alloc ?_ _) | (with_reducible refine Kd.C_drewN ?_ _) | (with_reducible refine Kd.C_drew ?_))); (case side2 => exact (Kd.R_reads' HO581.out).2.1); rintro e w60 ⟨v585, rfl, ho0, hb⟩; refine ⟨_, rfl, ?_⟩; have n0_ := Aside0.mk (Kd.R_elder' (by (with_reducible repeat (first | apply Kd.R_alloc | apply Kd.R_drewN | apply Kd.R_drew)); exact HO_6.out) (Kd.R_base ho0) hb); have n1_ := Aside0.mk (Kd.R_elder' (by (with_reducible repeat (first | apply Kd.R_alloc | apply Kd.R_drewN | apply Kd.R_drew)); exact HO_9.out) (Kd.R_base ho0) hb); have n2_ := Aside0.mk (Kd.R_elder' (by (with_reducible repeat (first | apply Kd.R_alloc | apply Kd.R_drewN | apply Kd.R_drew)); exact HO_12.out) (Kd.R_base ho0) hb); have n3_ := Aside0.mk (Kd.R_below (by (with_reducible repeat (first | apply Kd.R_alloc | apply Kd.R_drewN | apply Kd.R_drew)); exact HO572.out) hb); have n4_ := Aside0.mk (Kd.R_elder' (by (with_reducible repeat (first | apply Kd.R_alloc | apply Kd.R_drewN | apply Kd.R_drew)); exact HO581.out) (Kd.R_base ho0) hb); have n5_ := Aside0.mk (Kd.R_lower (Kd.R_new' (Kd.R_new' (Kd.R_new' (Kd.R_new' ho0 (Kd.R_lt (by (with_reducible repeat (first | apply Kd.R_alloc | apply Kd.R_drewN | apply Kd.R_drew)); exact HO_6.out))) (Kd.R_lt (by (with_reducible repeat (first | apply Kd.R_alloc | apply Kd.R_drewN | apply Kd.R_drew)); exact HO_9.out))) (Kd.R_lt (by (with_reducible repeat (first | apply Kd.R_alloc | apply Kd.R_drewN | apply Kd.R_drew)); exact HO_12.out))) (Kd.R_lt (by (with_reducible repeat (first | apply Kd.R_alloc | apply Kd.R_drewN | apply Kd.R_drew)); exact HO581.out))) (below_size (by repeat (first | (with_reducible first | exact HB.out | apply below_alloc | apply pw_below_drewN | apply below_drew1) | exact HB.out)))); have n6_ := Aside0.mk (below_step (by repeat (first | (with_reducible first | exact HB.out | apply below_alloc | apply pw_below_drewN | apply below_drew1) | exact HB.out)) hb); clear HO_6; clear HO_9; clear HO_12; clear HO572; clear HO581; clear HB; have HO_6 := n0_; have HO_9 := n1_; have HO_12 := n2_; have HO572 := n3_; have HO581 := n4_; have HO586 := n5_; have HB := n6_; clear n0_ n1_ n2_ n3_ n4_ n5_ n6_; (try clear hb); (try clear hb2); (try clear hk); (try clear hi); (try clear ho0)))
                                        have n0_ := Aside0.mk (Kd.R_drew HO_6.out)
                                        have n1_ := Aside0.mk (Kd.R_drew HO_9.out)
                                        have n2_ := Aside0.mk (Kd.R_drew HO_12.out)
                                        have n3_ := Aside0.mk (Kd.R_drew HO572.out)
                                        have n4_ := Aside0.mk (Kd.R_drew HO581.out)
                                        have n5_ := Aside0.mk (Kd.R_drew HO586.out)
                                        have n6_ := Aside0.mk (below_drew1 HB.out)
                                        clear HO_6
                                        clear HO_9
                                        clear HO_12
                                        clear HO572
                                        clear HO581
                                        clear HO586
                                        clear HB
                                        have HO_6 := n0_
                                        have HO_9 := n1_
                                        have HO_12 := n2_
                                        have HO572 := n3_
                                        have HO581 := n4_
                                        have HO586 := n5_
                                        have HB := n6_
                                        clear n0_ n1_ n2_ n3_ n4_ n5_ n6_
                                        have hlx62 := (Kd.R_reads' HO572.out).1
                                        have q62 : ((ji31) : Int) ≤ ((t570.length : Int) : Int) := of_decide_eq_true (by first | (with_reducible assumption) | assumption)
                                        obtain ⟨i062, hi062, _, hsz62, _⟩ := info_parts info3
                                        have hroom62 : t570.length ≤ co55 := (Kd.R_reads' HO572.out).2.1
                                        have hroomc62 : y578.length ≤ co55 := (by rw [← hlx62]; exact hroom62)
                                        have hC62 : Kd.C (Kd.int .i64) _ (some ⟨go37, 0, none⟩) y578.length y578 := (Kd.R_reads' HO572.out).2.2
                                        have hcut62 := cut_to (P := Try.prog) 31 3 .i64 Try.underlying31 hi062 (some ⟨go37, 0, none⟩) t570.length co55 (ji31) (of_decide_eq_true (by first | (with_reducible assumption) | assumption)) q62 hroom62
                                        have hr62 := Kd.C_take (m := ((ji31) : Int).toNat) hC62 (by omega)
                                        have hy62 : y590.length = ((ji31) : Int).toNat := (by rw [Ny590.out, List.length_take]; omega)
                                        rw [← Ny590.out] at hr62
                                        rw [← hy62] at hcut62
                                        have HR593 := Aside0.mk hr62
                                        have HC593 := Aside0.mk (show y590.length ≤ co55 from by omega)
                                        clear hr62 hC62 hroom62 hi062 hsz62 hroomc62
                                        have KY62 := Aside0.mk hy62
                                        clear hy62
                                        have KE62 := Aside0.mk hlx62
                                        have KL62 := Aside0.mk (show ((ji31) : Int).toNat ≤ y578.length from by omega)
                                        clear hlx62
                                        replace q62 := eq_true q62
                                        have hlx63 := (Kd.R_reads' HO572.out).1
                                        have q63 : ((ji43) : Int) ≤ ((t570.length : Int) : Int) := of_decide_eq_true (by first | (with_reducible assumption) | assumption)
                                        obtain ⟨i063, hi063, _, hsz63, _⟩ := info_parts info3
                                        have hroom63 : t570.length ≤ co55 := (Kd.R_reads' HO572.out).2.1
                                        have hroomc63 : y578.length ≤ co55 := (by rw [← hlx63]; exact hroom63)
                                        have hC63 : Kd.C (Kd.int .i64) _ (some ⟨go37, 0, none⟩) y578.length y578 := (Kd.R_reads' HO572.out).2.2
                                        have q063 : (0 : Int) ≤ ((ji43) : Int) := of_decide_eq_true (by first | (with_reducible assumption) | assumption)
                                        have hcut63 := cut_from (P := Try.prog) 31 3 .i64 Try.underlying31 hi063 1 hsz63 (some ⟨go37, 0, none⟩) t570.length co55 (ji43) q063 q63
                                        have hr63 := Kd.C_drop (m := ((ji43) : Int).toNat) (c := co55) hC63 (by omega) hroomc63
                                        obtain ⟨A63, hA63⟩ : ∃ Az_, Az_ = (if co55 = ((ji43) : Int).toNat then (some ⟨go37, 0, none⟩) else ((some ⟨go37, 0, none⟩) : Option Addr).map (·.add (((ji43) : Int).toNat * 1))) := ⟨_, rfl⟩
                                        obtain ⟨c63, hc63⟩ : ∃ cz_, cz_ = co55 - ((ji43) : Int).toNat := ⟨_, rfl⟩
                                        have hy63 : y597.length = t570.length - ((ji43) : Int).toNat := (by rw [Ny597.out, List.length_drop] <;> omega)
                                        rw [show (y578).drop ((ji43) : Int).toNat = y597 from Ny597.out.symm] at hr63
                                        replace hr63 : Kd.C (Kd.int .i64) _ A63 y597.length y597 := (by rw [hA63]; exact hr63)
                                        rw [← hy63, ← hA63, ← hc63] at hcut63
                                        have HR600 := Aside0.mk hr63
                                        have HC600 := Aside0.mk (show y597.length ≤ c63 from by rw [hy63, hc63]; exact Nat.sub_le_sub_right hroom63 _)
                                        clear hr63 hC63 hroom63 hi063 hsz63 hc63 hroomc63
                                        have KY63 := Aside0.mk hy63
                                        have KA63 := Aside0.mk hA63
                                        clear hy63 hA63
                                        have KE63 := Aside0.mk hlx63
                                        have KL63 := Aside0.mk (show ((ji43) : Int).toNat ≤ y578.length from by omega)
                                        clear hlx63
                                        replace q63 := eq_true q63
                                        refine start_ (n := 11) (S := fun w' => True) (ds := []) #[false, false, false, false, false, false, false, false, false, false, false] (by kernel_rfl) rfl rfl trivial (fun hHeld => ?_); refine with_tabW laws_FnTreesMerge.tab13 laws_FnTreesMerge.bits13 (fun HT_ HW_ => ?_)
                                        generalize w60.drew = w61 at HO_6 HO_9 HO_12 HO572 HO581 HO586 HB HR593 HR600 hHeld ⊢
                                        refine pure_ (i := 1) (N := some 126) (v := ?_) (a' := ?_) #[false, true, false, false, false, false, false, false, false, false, false] rfl rfl (any_of HT_.out (by kernel_rfl)) (fun _ _ _ h => h) (Or.inl ⟨by rfl, ?_⟩) ?_ ?_
                                        rotate_left
                                        · intro w'
                                          go_simp
                                          with_reducible rfl
                                        rotate_left
                                        · simp only [Act.put, List.setIfInBounds_toArray, List.set_cons_zero, List.set_cons_succ, i64_w, i32_w]
                                          rfl
                                        refine pure_ (i := 2) (N := some 127) (v := ?_) (a' := ?_) #[false, true, true, false, false, false, false, false, false, false, false] rfl rfl (any_of HT_.out (by kernel_rfl)) (fun _ _ _ h => h) (Or.inl ⟨by rfl, ?_⟩) ?_ ?_
                                        rotate_left
                                        · intro w'
                                          go_simp
                                          with_reducible rfl
                                        rotate_left
                                        · simp only [Act.put, List.setIfInBounds_toArray, List.set_cons_zero, List.set_cons_succ, i64_w, i32_w]
                                          rfl
                                        refine pure_ (i := 3) (N := some 128) (v := ?_) (a' := ?_) #[false, true, true, true, false, false, false, false, false, false, false] rfl rfl (any_of HT_.out (by kernel_rfl)) (fun _ _ _ h => h) (Or.inl ⟨by rfl, ?_⟩) ?_ ?_
                                        rotate_left
                                        · intro w'
                                          go_simp
                                          with_reducible rfl
                                        rotate_left
                                        · simp only [Act.put, List.setIfInBounds_toArray, List.set_cons_zero, List.set_cons_succ, i64_w, i32_w]
                                          rfl
                                        refine pure_ (i := 5) (N := some 130) (v := ?_) (a' := ?_) #[false, true, true, true, false, true, false, false, false, false, false] rfl rfl (any_of HT_.out (by kernel_rfl)) (fun _ _ _ h => h) (Or.inl ⟨by rfl, ?_⟩) ?_ ?_
                                        rotate_left
                                        · intro w'
                                          go_simp
                                          with_reducible rfl
                                        rotate_left
                                        · simp only [Act.put, List.setIfInBounds_toArray, List.set_cons_zero, List.set_cons_succ, i64_w, i32_w]
                                          rfl
                                        refine pure_ (i := 6) (N := some 131) (v := ?_) (a' := ?_) #[false, true, true, true, false, true, true, false, false, false, false] rfl rfl (any_of HT_.out (by kernel_rfl)) (fun _ _ _ h => h) (Or.inl ⟨by rfl, ?_⟩) ?_ ?_
                                        rotate_left
                                        · intro w'
                                          go_simp
                                          with_reducible rfl
                                        rotate_left
                                        · simp only [Act.put, List.setIfInBounds_toArray, List.set_cons_zero, List.set_cons_succ, i64_w, i32_w]
                                          rfl
                                        refine pure_ (i := 7) (N := some 132) (v := ?_) (a' := ?_) #[false, true, true, true, false, true, true, true, false, false, false] rfl rfl (any_of HT_.out (by kernel_rfl)) (fun _ _ _ h => h) (Or.inl ⟨by rfl, ?_⟩) ?_ ?_
                                        rotate_left
                                        · intro w'
                                          go_simp
                                          with_reducible rfl
                                        rotate_left
                                        · simp only [Act.put, List.setIfInBounds_toArray, List.set_cons_zero, List.set_cons_succ, i64_w, i32_w]
                                          rfl
                                        refine pure_ (i := 8) (N := some 133) (v := ?_) (a' := ?_) #[false, true, true, true, false, true, true, true, true, false, false] rfl rfl (any_of HT_.out (by kernel_rfl)) (fun _ _ _ h => h) (Or.inl ⟨by rfl, ?_⟩) ?_ ?_
                                        rotate_left
                                        · intro w'
                                          go_simp
                                          with_reducible rfl
                                        rotate_left
                                        · simp only [Act.put, List.setIfInBounds_toArray, List.set_cons_zero, List.set_cons_succ, i64_w, i32_w]
                                          rfl
                                        refine one_ (i := 0) (N := some 125) #[true, true, true, true, false, true, true, true, true, false, false] rfl rfl (one_of HT_.out (by kernel_rfl)) (by decide) (fun K hK => ?_)
                                        refine Kd.R_lit_step (Kd.int .i64) _ 3 ?hg (N := 125) ?hd (xs := ([] : List Int)) (inner := []) (ok := fun _ => True) (okp := fun _ => True) ?hr ?hp (fun _ hk => hk) trivial (Below.refl _ _) (Nat.le_refl _) (by simp) ?_; (case hd => rfl); (case hg => rfl); (case hr => first | (go_simp; done) | (go_simp; rfl)); (case hp => exact (Reps.none _ _))
                                        intro v588 w64 ho65 hb hg_ hnew_
                                        clear hg_ hnew_
                                        (first | rw [← Ny587.out] at ho65 | (simp only [Int.reduceToNat] at ho65; rw [← Ny587.out] at ho65))
                                        have n0_ := Aside0.mk (Kd.R_below (by (with_reducible repeat (first | apply Kd.R_alloc | apply Kd.R_drewN | apply Kd.R_drew)); exact HO_6.out) hb)
                                        have n1_ := Aside0.mk (Kd.R_below (by (with_reducible repeat (first | apply Kd.R_alloc | apply Kd.R_drewN | apply Kd.R_drew)); exact HO_9.out) hb)
                                        have n2_ := Aside0.mk (Kd.R_below (by (with_reducible repeat (first | apply Kd.R_alloc | apply Kd.R_drewN | apply Kd.R_drew)); exact HO_12.out) hb)
                                        have n3_ := Aside0.mk (Kd.R_elder' (by (with_reducible repeat (first | apply Kd.R_alloc | apply Kd.R_drewN | apply Kd.R_drew)); exact HO572.out) (Kd.R_base ho65) hb)
                                        have n4_ := Aside0.mk (Kd.R_below (by (with_reducible repeat (first | apply Kd.R_alloc | apply Kd.R_drewN | apply Kd.R_drew)); exact HO581.out) hb)
                                        have n5_ := Aside0.mk (Kd.R_below (by (with_reducible repeat (first | apply Kd.R_alloc | apply Kd.R_drewN | apply Kd.R_drew)); exact HO586.out) hb)
                                        have n6_ := Aside0.mk (Kd.R_lower (Kd.R_new' ho65 (Kd.R_lt (by (with_reducible repeat (first | apply Kd.R_alloc | apply Kd.R_drewN | apply Kd.R_drew)); exact HO572.out))) (below_size (by repeat (first | (with_reducible first | exact HB.out | apply below_alloc | apply pw_below_drewN | apply below_drew1) | exact HB.out))))
                                        have n7_ := Aside0.mk (Kd.C_below (by repeat (first | (with_reducible exact HR593.out) | (with_reducible refine Kd.C_alloc ?_ _) | (with_reducible refine Kd.C_drewN ?_ _) | (with_reducible refine Kd.C_drew ?_) | exact HR593.out)) hb)
                                        have n8_ := Aside0.mk (Kd.C_below (by repeat (first | (with_reducible exact HR600.out) | (with_reducible refine Kd.C_alloc ?_ _) | (with_reducible refine Kd.C_drewN ?_ _) | (with_reducible refine Kd.C_drew ?_) | exact HR600.out)) hb)
                                        have n9_ := Aside0.mk (below_step (by repeat (first | (with_reducible first | exact HB.out | apply below_alloc | apply pw_below_drewN | apply below_drew1) | exact HB.out)) hb)
                                        clear HO_6
                                        clear HO_9
                                        clear HO_12
                                        clear HO572
                                        clear HO581
                                        clear HO586
                                        clear HR593
                                        clear HR600
                                        clear HB
                                        have HO_6 := n0_
                                        have HO_9 := n1_
                                        have HO_12 := n2_
                                        have HO572 := n3_
                                        have HO581 := n4_
                                        have HO586 := n5_
                                        have HO589 := n6_
                                        have HR593 := n7_
                                        have HR600 := n8_
                                        have HB := n9_
                                        clear n0_ n1_ n2_ n3_ n4_ n5_ n6_ n7_ n8_ n9_
                                        clear hb ho65
                                        refine hK.out _ _ trivial (fun hHeld => ?_)
                                        clear hK K
                                        refine norm_ (a' := ?_) ?_ ?_
                                        rotate_left
                                        · show Act.put _ (some 125) _ = _
                                          simp only [Act.put, List.setIfInBounds_toArray, List.set_cons_zero, List.set_cons_succ, i64_w, i32_w]
                                          rfl
                                        refine one_ (i := 4) (N := some 129) #[true, true, true, true, true, true, true, true, true, false, false] rfl rfl (one_of HT_.out (by kernel_rfl)) (by decide) (fun K hK => ?_)
                                        refine Kd.R_append_rows_step (Kd.int .i64) (w0 := w) w.heap.size (by rfl) (.tmp 125) (.tmp 128) 31 3 (.int .i64 0) 8 rfl Try.underlying31 info3 rfl (by decide) (by omega) v588 y587 y590 _ _ _ (fun k_ => some k_ ≠ (.slice (some ⟨go37, 0, none⟩) t570.length co55 : Value).ownBlock) (fun _ => False) rfl rfl ?aO ?aR (fun _ _ h => h) (fun _ h => h.elim) ?aF ?aB ?aS ?aL ?_
                                        (case aR => repeat (first | exact (by repeat (first | (with_reducible exact HR593.out) | (with_reducible refine Kd.C_alloc ?_ _) | (with_reducible refine Kd.C_drewN ?_ _) | (with_reducible refine Kd.C_drew ?_) | exact HR593.out)) | (with_reducible refine Kd.C_alloc ?_ _) | (with_reducible refine Kd.C_drewN ?_ _) | (with_reducible refine Kd.C_drew ?_)))
                                        (case aB => exact (by repeat (first | (with_reducible first | exact HB.out | apply below_alloc | apply pw_below_drewN | apply below_drew1) | exact HB.out)))
                                        (case aF => exact (fun k_ hk => Kd.fresh' (Kd.R_lt (by (with_reducible repeat (first | apply Kd.R_alloc | apply Kd.R_drewN | apply Kd.R_drew)); exact HO572.out)) k_ hk))
                                        (case aO => exact (by (with_reducible repeat (first | apply Kd.R_alloc | apply Kd.R_drewN | apply Kd.R_drew)); exact Kd.R_mono HO589.out (fun _ hk => hk.2)))
                                        (case aS => exact (below_size (by repeat (first | (with_reducible first | exact HB.out | apply below_alloc | apply pw_below_drewN | apply below_drew1) | exact HB.out))))
                                        (case aL => have := LMc42.out; omega)
                                        intro v595 w66 ho hb hg hat
                                        rw [← Ny594.out] at ho
                                        have n0_ := Aside0.mk (Kd.R_over' (by (with_reducible repeat (first | apply Kd.R_alloc | apply Kd.R_drewN | apply Kd.R_drew)); exact HO_6.out) (Kd.R_typed (by (with_reducible repeat (first | apply Kd.R_alloc | apply Kd.R_drewN | apply Kd.R_drew)); exact HO589.out)) (by decide) hg)
                                        have n1_ := Aside0.mk (Kd.R_over' (by (with_reducible repeat (first | apply Kd.R_alloc | apply Kd.R_drewN | apply Kd.R_drew)); exact HO_9.out) (Kd.R_typed (by (with_reducible repeat (first | apply Kd.R_alloc | apply Kd.R_drewN | apply Kd.R_drew)); exact HO589.out)) (by decide) hg)
                                        have n2_ := Aside0.mk (Kd.R_over' (by (with_reducible repeat (first | apply Kd.R_alloc | apply Kd.R_drewN | apply Kd.R_drew)); exact HO_12.out) (Kd.R_typed (by (with_reducible repeat (first | apply Kd.R_alloc | apply Kd.R_drewN | apply Kd.R_drew)); exact HO589.out)) (by decide) hg)
                                        have n3_ := Aside0.mk (Kd.R_after (ok := (fun _ => True)) (by (with_reducible repeat (first | apply Kd.R_alloc | apply Kd.R_drewN | apply Kd.R_drew)); exact HO572.out) hg hat)
                                        have n4_ := Aside0.mk (Kd.R_over' (by (with_reducible repeat (first | apply Kd.R_alloc | apply Kd.R_drewN | apply Kd.R_drew)); exact HO581.out) (Kd.R_typed (by (with_reducible repeat (first | apply Kd.R_alloc | apply Kd.R_drewN | apply Kd.R_drew)); exact HO589.out)) (by decide) hg)
                                        have n5_ := Aside0.mk (Kd.R_over' (by (with_reducible repeat (first | apply Kd.R_alloc | apply Kd.R_drewN | apply Kd.R_drew)); exact HO586.out) (Kd.R_typed (by (with_reducible repeat (first | apply Kd.R_alloc | apply Kd.R_drewN | apply Kd.R_drew)); exact HO589.out)) (by decide) hg)
                                        have n6_ := Aside0.mk (hb)
                                        have n7_ := Aside0.mk ((show Kd.C (Kd.int .i64) w66 (some ⟨go37, 0, none⟩) y590.length y590 from by rw [Ny590.out]; exact Kd.C_take (m := ((ji31) : Int).toNat) ((Kd.R_reads' (Kd.R_after (ok := (fun _ => True)) (by (with_reducible repeat (first | apply Kd.R_alloc | apply Kd.R_drewN | apply Kd.R_drew)); exact HO572.out) hg hat)).2.2) KL62.out))
                                        have n8_ := Aside0.mk ((show Kd.C (Kd.int .i64) w66 A63 y597.length y597 from by rw [Ny597.out, KA63.out]; exact Kd.C_drop (m := ((ji43) : Int).toNat) (c := co55) ((Kd.R_reads' (Kd.R_after (ok := (fun _ => True)) (by (with_reducible repeat (first | apply Kd.R_alloc | apply Kd.R_drewN | apply Kd.R_drew)); exact HO572.out) hg hat)).2.2) KL63.out (by rw [← KE63.out]; exact (Kd.R_reads' (Kd.R_after (ok := (fun _ => True)) (by (with_reducible repeat (first | apply Kd.R_alloc | apply Kd.R_drewN | apply Kd.R_drew)); exact HO572.out) hg hat)).2.1)))
                                        have n9_ := Aside0.mk (ho)
                                        clear HO_6
                                        clear HO_9
                                        clear HO_12
                                        clear HO572
                                        clear HO581
                                        clear HO586
                                        clear HB
                                        clear HR593
                                        clear HR600
                                        clear HO589
                                        have HO_6 := n0_
                                        have HO_9 := n1_
                                        have HO_12 := n2_
                                        have HO572 := n3_
                                        have HO581 := n4_
                                        have HO586 := n5_
                                        have HB := n6_
                                        have HR593 := n7_
                                        have HR600 := n8_
                                        have HO596 := n9_
                                        clear n0_ n1_ n2_ n3_ n4_ n5_ n6_ n7_ n8_ n9_
                                        clear ho hb hg hat
                                        refine hK.out _ _ trivial (fun hHeld => ?_)
                                        clear hK K
                                        refine norm_ (a' := ?_) ?_ ?_
                                        rotate_left
                                        · show Act.put _ (some 129) _ = _
                                          simp only [Act.put, List.setIfInBounds_toArray, List.set_cons_zero, List.set_cons_succ, i64_w, i32_w]
                                          rfl
                                        refine one_ (i := 9) (N := some 134) #[true, true, true, true, true, true, true, true, true, true, false] rfl rfl (one_of HT_.out (by kernel_rfl)) (by decide) (fun K hK => ?_)
                                        refine Kd.R_append_rows_step (Kd.int .i64) (w0 := w) w.heap.size (by rfl) (.tmp 129) (.tmp 133) 31 3 (.int .i64 0) 8 rfl Try.underlying31 info3 rfl (by decide) (by omega) v595 y594 y597 _ _ _ (fun k_ => some k_ ≠ (.slice (some ⟨go37, 0, none⟩) t570.length co55 : Value).ownBlock) (fun _ => False) rfl rfl ?aO ?aR (fun _ _ h => h) (fun _ h => h.elim) ?aF ?aB ?aS ?aL ?_
                                        (case aR => repeat (first | exact (by repeat (first | (with_reducible exact HR600.out) | (with_reducible refine Kd.C_alloc ?_ _) | (with_reducible refine Kd.C_drewN ?_ _) | (with_reducible refine Kd.C_drew ?_) | exact HR600.out)) | (with_reducible refine Kd.C_alloc ?_ _) | (with_reducible refine Kd.C_drewN ?_ _) | (with_reducible refine Kd.C_drew ?_)))
                                        (case aB => exact (by repeat (first | (with_reducible first | exact HB.out | apply below_alloc | apply pw_below_drewN | apply below_drew1) | exact HB.out)))
                                        (case aF => exact (fun k_ hk => Kd.fresh' (Kd.R_lt (by (with_reducible repeat (first | apply Kd.R_alloc | apply Kd.R_drewN | apply Kd.R_drew)); exact HO572.out)) k_ hk))
                                        (case aO => exact (by (with_reducible repeat (first | apply Kd.R_alloc | apply Kd.R_drewN | apply Kd.R_drew)); exact HO596.out))
                                        (case aS => exact (below_size (by repeat (first | (with_reducible first | exact HB.out | apply below_alloc | apply pw_below_drewN | apply below_drew1) | exact HB.out))))
                                        (case aL => have := LMc46.out; omega)
                                        intro v602 w67 ho hb hg hat
                                        rw [← Ny601.out] at ho
                                        have n0_ := Aside0.mk (Kd.R_over' (by (with_reducible repeat (first | apply Kd.R_alloc | apply Kd.R_drewN | apply Kd.R_drew)); exact HO_6.out) (Kd.R_typed (by (with_reducible repeat (first | apply Kd.R_alloc | apply Kd.R_drewN | apply Kd.R_drew)); exact HO596.out)) (by decide) hg)
                                        have n1_ := Aside0.mk (Kd.R_over' (by (with_reducible repeat (first | apply Kd.R_alloc | apply Kd.R_drewN | apply Kd.R_drew)); exact HO_9.out) (Kd.R_typed (by (with_reducible repeat (first | apply Kd.R_alloc | apply Kd.R_drewN | apply Kd.R_drew)); exact HO596.out)) (by decide) hg)
                                        have n2_ := Aside0.mk (Kd.R_over' (by (with_reducible repeat (first | apply Kd.R_alloc | apply Kd.R_drewN | apply Kd.R_drew)); exact HO_12.out) (Kd.R_typed (by (with_reducible repeat (first | apply Kd.R_alloc | apply Kd.R_drewN | apply Kd.R_drew)); exact HO596.out)) (by decide) hg)
                                        have n3_ := Aside0.mk (Kd.R_after (ok := (fun _ => True)) (by (with_reducible repeat (first | apply Kd.R_alloc | apply Kd.R_drewN | apply Kd.R_drew)); exact HO572.out) hg hat)
                                        have n4_ := Aside0.mk (Kd.R_over' (by (with_reducible repeat (first | apply Kd.R_alloc | apply Kd.R_drewN | apply Kd.R_drew)); exact HO581.out) (Kd.R_typed (by (with_reducible repeat (first | apply Kd.R_alloc | apply Kd.R_drewN | apply Kd.R_drew)); exact HO596.out)) (by decide) hg)
                                        have n5_ := Aside0.mk (Kd.R_over' (by (with_reducible repeat (first | apply Kd.R_alloc | apply Kd.R_drewN | apply Kd.R_drew)); exact HO586.out) (Kd.R_typed (by (with_reducible repeat (first | apply Kd.R_alloc | apply Kd.R_drewN | apply Kd.R_drew)); exact HO596.out)) (by decide) hg)
                                        have n6_ := Aside0.mk (hb)
                                        have n7_ := Aside0.mk ((show Kd.C (Kd.int .i64) w67 (some ⟨go37, 0, none⟩) y590.length y590 from by rw [Ny590.out]; exact Kd.C_take (m := ((ji31) : Int).toNat) ((Kd.R_reads' (Kd.R_after (ok := (fun _ => True)) (by (with_reducible repeat (first | apply Kd.R_alloc | apply Kd.R_drewN | apply Kd.R_drew)); exact HO572.out) hg hat)).2.2) KL62.out))
                                        have n8_ := Aside0.mk ((show Kd.C (Kd.int .i64) w67 A63 y597.length y597 from by rw [Ny597.out, KA63.out]; exact Kd.C_drop (m := ((ji43) : Int).toNat) (c := co55) ((Kd.R_reads' (Kd.R_after (ok := (fun _ => True)) (by (with_reducible repeat (first | apply Kd.R_alloc | apply Kd.R_drewN | apply Kd.R_drew)); exact HO572.out) hg hat)).2.2) KL63.out (by rw [← KE63.out]; exact (Kd.R_reads' (Kd.R_after (ok := (fun _ => True)) (by (with_reducible repeat (first | apply Kd.R_alloc | apply Kd.R_drewN | apply Kd.R_drew)); exact HO572.out) hg hat)).2.1)))
                                        have n9_ := Aside0.mk (ho)
                                        clear HO_6
                                        clear HO_9
                                        clear HO_12
                                        clear HO572
                                        clear HO581
                                        clear HO586
                                        clear HB
                                        clear HR593
                                        clear HR600
                                        clear HO596
                                        have HO_6 := n0_
                                        have HO_9 := n1_
                                        have HO_12 := n2_
                                        have HO572 := n3_
                                        have HO581 := n4_
                                        have HO586 := n5_
                                        have HB := n6_
                                        have HR593 := n7_
                                        have HR600 := n8_
                                        have HO603 := n9_
                                        clear n0_ n1_ n2_ n3_ n4_ n5_ n6_ n7_ n8_ n9_
                                        clear ho hb hg hat
                                        refine hK.out _ _ trivial (fun hHeld => ?_)
                                        clear hK K
                                        refine norm_ (a' := ?_) ?_ ?_
                                        rotate_left
                                        · show Act.put _ (some 134) _ = _
                                          simp only [Act.put, List.setIfInBounds_toArray, List.set_cons_zero, List.set_cons_succ, i64_w, i32_w]
                                          rfl
                                        refine pure_ (i := 10) (N := some 20) (v := ?_) (a' := ?_) #[true, true, true, true, true, true, true, true, true, true, true] rfl rfl (any_of HT_.out (by kernel_rfl)) (fun _ _ _ h => h) (Or.inl ⟨by rfl, ?_⟩) ?_ ?_
                                        rotate_left
                                        · intro w'
                                          go_simp
                                          with_reducible rfl
                                        rotate_left
                                        · simp only [Act.put, List.setIfInBounds_toArray, List.set_cons_zero, List.set_cons_succ, i64_w, i32_w]
                                          rfl
                                        refine done_ (done_of HT_.out (by kernel_rfl)) ?_
                                        obtain ⟨Ao68, co68, eo68⟩ := Kd.R_slice HO_9.out
                                        subst eo68
                                        try go_wp2_with (first | (go_at_call 33; (with_reducible refine (impl_NetWhole.calls kj8 t558 _ _ t559 t604 _ ?side1 ?side2 A48.out).mono ?_); (case side1 => repeat (first | exact (Kd.R_reads' HO_9.out).2.2 | (with_reducible refine Kd.C_alloc ?_ _) | (with_reducible refine Kd.C_drewN ?_ _) | (with_reducible refine Kd.C_drew ?_))); (case side2 => exact (Kd.R_reads' HO_9.out).2.1); rintro e w69 ⟨rfl, hb⟩; have n0_ := Aside0.mk (Kd.R_below (by (with_reducible repeat (first | apply Kd.R_alloc | apply Kd.R_drewN | apply Kd.R_drew)); exact HO_6.out) hb); have n1_ := Aside0.mk (Kd.R_below (by (with_reducible repeat (first | apply Kd.R_alloc | apply Kd.R_drewN | apply Kd.R_drew)); exact HO_9.out) hb); have n2_ := Aside0.mk (Kd.R_below (by (with_reducible repeat (first | apply Kd.R_alloc | apply Kd.R_drewN | apply Kd.R_drew)); exact HO_12.out) hb); have n3_ := Aside0.mk (Kd.R_below (by (with_reducible repeat (first | apply Kd.R_alloc | apply Kd.R_drewN | apply Kd.R_drew)); exact HO572.out) hb); have n4_ := Aside0.mk (Kd.R_below (by (with_reducible repeat (first | apply Kd.R_alloc | apply Kd.R_drewN | apply Kd.R_drew)); exact HO581.out) hb); have n5_ := Aside0.mk (Kd.R_below (by (with_reducible repeat (first | apply Kd.R_alloc | apply Kd.R_drewN | apply Kd.R_drew)); exact HO586.out) hb); have n6_ := Aside0.mk (Kd.R_below (by (with_reducible repeat (first | apply Kd.R_alloc | apply Kd.R_drewN | apply Kd.R_drew)); exact HO603.out) hb); have n7_ := Aside0.mk (Kd.C_below (by repeat (first | (with_reducible exact HR593.out) | (with_reducible refine Kd.C_alloc ?_ _) | (with_reducible refine Kd.C_drewN ?_ _) | (with_reducible refine Kd.C_drew ?_) | exact HR593.out)) hb); have n8_ := Aside0.mk (Kd.C_below (by repeat (first | (with_reducible exact HR600.out) | (with_reducible refine Kd.C_alloc ?_ _) | (with_reducible refine Kd.C_drewN ?_ _) | (with_reducible refine Kd.C_drew ?_) | exact HR600.out)) hb); have n9_ := Aside0.mk (below_step (by repeat (first | (with_reducible first | exact HB.out | apply below_alloc | apply pw_below_drewN | apply below_drew1) | exact HB.out)) hb); clear HO_6; clear HO_9; clear HO_12; clear HO572; clear HO581; clear HO586; clear HO603; clear HR593; clear HR600; clear HB; have HO_6 := n0_; have HO_9 := n1_; have HO_12 := n2_; have HO572 := n3_; have HO581 := n4_; have HO586 := n5_; have HO603 := n6_; have HR593 := n7_; have HR600 := n8_; have HB := n9_; clear n0_ n1_ n2_ n3_ n4_ n5_ n6_ n7_ n8_ n9_; (try clear hb); (try clear hb2); (try clear hk); (try clear hi)) | (go_at_call 33; (with_reducible refine (impl_NetWhole.calls kj8 t553 _ _ t554 t605 _ ?side1 ?side2 A49.out).mono ?_); (case side1 => repeat (first | exact (Kd.R_reads' HO_6.out).2.2 | (with_reducible refine Kd.C_alloc ?_ _) | (with_reducible refine Kd.C_drewN ?_ _) | (with_reducible refine Kd.C_drew ?_))); (case side2 => exact (Kd.R_reads' HO_6.out).2.1); rintro e w70 ⟨rfl, hb⟩; have n0_ := Aside0.mk (Kd.R_below (by (with_reducible repeat (first | apply Kd.R_alloc | apply Kd.R_drewN | apply Kd.R_drew)); exact HO_6.out) hb); have n1_ := Aside0.mk (Kd.R_below (by (with_reducible repeat (first | apply Kd.R_alloc | apply Kd.R_drewN | apply Kd.R_drew)); exact HO_9.out) hb); have n2_ := Aside0.mk (Kd.R_below (by (with_reducible repeat (first | apply Kd.R_alloc | apply Kd.R_drewN | apply Kd.R_drew)); exact HO_12.out) hb); have n3_ := Aside0.mk (Kd.R_below (by (with_reducible repeat (first | apply Kd.R_alloc | apply Kd.R_drewN | apply Kd.R_drew)); exact HO572.out) hb); have n4_ := Aside0.mk (Kd.R_below (by (with_reducible repeat (first | apply Kd.R_alloc | apply Kd.R_drewN | apply Kd.R_drew)); exact HO581.out) hb); have n5_ := Aside0.mk (Kd.R_below (by (with_reducible repeat (first | apply Kd.R_alloc | apply Kd.R_drewN | apply Kd.R_drew)); exact HO586.out) hb); have n6_ := Aside0.mk (Kd.R_below (by (with_reducible repeat (first | apply Kd.R_alloc | apply Kd.R_drewN | apply Kd.R_drew)); exact HO603.out) hb); have n7_ := Aside0.mk (Kd.C_below (by repeat (first | (with_reducible exact HR593.out) | (with_reducible refine Kd.C_alloc ?_ _) | (with_reducible refine Kd.C_drewN ?_ _) | (with_reducible refine Kd.C_drew ?_) | exact HR593.out)) hb); have n8_ := Aside0.mk (Kd.C_below (by repeat (first | (with_reducible exact HR600.out) | (with_reducible refine Kd.C_alloc ?_ _) | (with_reducible refine Kd.C_drewN ?_ _) | (with_reducible refine Kd.C_drew ?_) | exact HR600.out)) hb); have n9_ := Aside0.mk (below_step (by repeat (first | (with_reducible first | exact HB.out | apply below_alloc | apply pw_below_drewN | apply below_drew1) | exact HB.out)) hb); clear HO_6; clear HO_9; clear HO_12; clear HO572; clear HO581; clear HO586; clear HO603; clear HR593; clear HR600; clear HB; have HO_6 := n0_; have HO_9 := n1_; have HO_12 := n2_; have HO572 := n3_; have HO581 := n4_; have HO586 := n5_; have HO603 := n6_; have HR593 := n7_; have HR600 := n8_; have HB := n9_; clear n0_ n1_ n2_ n3_ n4_ n5_ n6_ n7_ n8_ n9_; (try clear hb); (try clear hb2); (try clear hk); (try clear hi); obtain ⟨Ao71, co71, eo71⟩ := Kd.R_slice HO586.out; subst eo71; obtain ⟨Ao72, co72, eo72⟩ := Kd.R_slice HO603.out; subst eo72) | (go_at_call 34; (with_reducible refine (impl_NetFits.calls kj8 t558 _ _ t583 _ _ y601 t606 _ ?side1 ?side2 ?side3 ?side4 A51.out).mono ?_); (case side1 => repeat (first | exact (Kd.R_reads' HO586.out).2.2 | (with_reducible refine Kd.C_alloc ?_ _) | (with_reducible refine Kd.C_drewN ?_ _) | (with_reducible refine Kd.C_drew ?_))); (case side2 => exact (Kd.R_reads' HO586.out).2.1); (case side3 => repeat (first | exact (Kd.R_reads' HO603.out).2.2 | (with_reducible refine Kd.C_alloc ?_ _) | (with_reducible refine Kd.C_drewN ?_ _) | (with_reducible refine Kd.C_drew ?_))); (case side4 => exact (Kd.R_reads' HO603.out).2.1); rintro e w73 ⟨rfl, hb⟩; have n0_ := Aside0.mk (Kd.R_below (by (with_reducible repeat (first | apply Kd.R_alloc | apply Kd.R_drewN | apply Kd.R_drew)); exact HO_6.out) hb); have n1_ := Aside0.mk (Kd.R_below (by (with_reducible repeat (first | apply Kd.R_alloc | apply Kd.R_drewN | apply Kd.R_drew)); exact HO_9.out) hb); have n2_ := Aside0.mk (Kd.R_below (by (with_reducible repeat (first | apply Kd.R_alloc | apply Kd.R_drewN | apply Kd.R_drew)); exact HO_12.out) hb); have n3_ := Aside0.mk (Kd.R_below (by (with_reducible repeat (first | apply Kd.R_alloc | apply Kd.R_drewN | apply Kd.R_drew)); exact HO572.out) hb); have n4_ := Aside0.mk (Kd.R_below (by (with_reducible repeat (first | apply Kd.R_alloc | apply Kd.R_drewN | apply Kd.R_drew)); exact HO581.out) hb); have n5_ := Aside0.mk (Kd.R_below (by (with_reducible repeat (first | apply Kd.R_alloc | apply Kd.R_drewN | apply Kd.R_drew)); exact HO586.out) hb); have n6_ := Aside0.mk (Kd.R_below (by (with_reducible repeat (first | apply Kd.R_alloc | apply Kd.R_drewN | apply Kd.R_drew)); exact HO603.out) hb); have n7_ := Aside0.mk (Kd.C_below (by repeat (first | (with_reducible exact HR593.out) | (with_reducible refine Kd.C_alloc ?_ _) | (with_reducible refine Kd.C_drewN ?_ _) | (with_reducible refine Kd.C_drew ?_) | exact HR593.out)) hb); have n8_ := Aside0.mk (Kd.C_below (by repeat (first | (with_reducible exact HR600.out) | (with_reducible refine Kd.C_alloc ?_ _) | (with_reducible refine Kd.C_drewN ?_ _) | (with_reducible refine Kd.C_drew ?_) | exact HR600.out)) hb); have n9_ := Aside0.mk (below_step (by repeat (first | (with_reducible first | exact HB.out | apply below_alloc | apply pw_below_drewN | apply below_drew1) | exact HB.out)) hb); clear HO_6; clear HO_9; clear HO_12; clear HO572; clear HO581; clear HO586; clear HO603; clear HR593; clear HR600; clear HB; have HO_6 := n0_; have HO_9 := n1_; have HO_12 := n2_; have HO572 := n3_; have HO581 := n4_; have HO586 := n5_; have HO603 := n6_; have HR593 := n7_; have HR600 := n8_; have HB := n9_; clear n0_ n1_ n2_ n3_ n4_ n5_ n6_ n7_ n8_ n9_; (try clear hb); (try clear hb2); (try clear hk); (try clear hi)))
                                        go_ret
                                        exact ⟨by first | rfl | (simp [errW_none, errW_some] <;> rfl) | (simp only [← hji31, ← hji32, ← hji43]; first | rfl | (simp [errW_none, errW_some] <;> rfl)) | (simp [*, errW_none, errW_some] <;> rfl), by repeat (first | (with_reducible first | exact HB.out | apply below_alloc | apply pw_below_drewN | apply below_drew1) | exact HB.out)⟩
                                      · rw [if_neg c50] at H
                                        have c50b0 : (t604 == t605) = false := by simpa using c50
                                        (try (have c50b1 : decide (t604 = t605) = false := by simpa using c50))
                                        (try (have c50b2 : (t604 == t605) = false := by simpa using c50))
                                        (try (have c50b3 : ¬ (t604 = t605) := by simpa using c50))
                                        clear c50
                                        exact absurd ((Option.some.inj H).trans hT.out) (by decide)
                                    · replace c47 := Bool.eq_false_iff.mpr c47
                                      subst c47
                                      have H1 : (some false) = some r := by rw [if_neg (show ¬ (false = true) by decide)] at H; exact H
                                      clear H
                                      have H := H1
                                      clear H1
                                      exact absurd ((Option.some.inj H).trans hT.out) (by decide)
                                  · rw [if_neg c46] at H
                                    exact absurd H (by simp)
                                · rw [if_neg c45] at H
                                  exact absurd H (by simp)
                              · rw [if_neg c44] at H
                                exact absurd H (by simp)
                            · rw [if_neg c42] at H
                              exact absurd H (by simp)
                          · rw [if_neg c41] at H
                            exact absurd H (by simp)
                        · rw [if_neg c36] at H
                          exact absurd H (by simp)
                      · rw [if_neg c35] at H
                        exact absurd H (by simp)
                    · rw [if_neg c34] at H
                      exact absurd H (by simp)
                  · rw [if_neg c33] at H
                    exact absurd H (by simp)
                · rw [if_neg c30] at H
                  exact absurd H (by simp)
              · rw [if_neg c29] at H
                exact absurd H (by simp)

/-- THE ONE PURE STATEMENT of laws_FnTreesMerge: yours. -/
def laws_FnTreesMerge.Pure : Prop := ∀ (l0 : List Int) (l1 : List Int), l0.length ≤ maxLen → l0.length * 1 ≤ 140737488351232 → (∀ x ∈ l0, (Lit.int .u8 x).wf = true) → l1.length ≤ maxLen → l1.length * 1 ≤ 140737488351232 → (∀ x ∈ l1, (Lit.int .u8 x).wf = true) → ∃ k, laws_FnTreesMerge.f k l0 l1 = some true
theorem laws_FnTreesMerge.walk (P : laws_FnTreesMerge.Pure) (a0 : Option Addr) (len0 cap0 : Nat) (z0 : List Int) (a1 : Option Addr) (len1 cap1 : Nat) (z1 : List Int) (w : World) (w0 : (a0 = none ∧ len0 = 0 ∧ cap0 = 0 ∧ z0 = []) ∨ ∃ x, a0 = some x ∧ len0 ≤ cap0 ∧ cap0 ≤ maxLen ∧ z0.length = cap0 ∧ (∀ i, i < z0.length → w.cell? (x.add i) = some (.int .u8 (z0.getD i 0))) ∧ ∀ n ∈ z0, (Lit.int .u8 n).wf = true) (y0 : len0 * 1 ≤ 140737488351232) (w1 : (a1 = none ∧ len1 = 0 ∧ cap1 = 0 ∧ z1 = []) ∨ ∃ x, a1 = some x ∧ len1 ≤ cap1 ∧ cap1 ≤ maxLen ∧ z1.length = cap1 ∧ (∀ i, i < z1.length → w.cell? (x.add i) = some (.int .u8 (z1.getD i 0))) ∧ ∀ n ∈ z1, (Lit.int .u8 n).wf = true) (y1 : len1 * 1 ≤ 140737488351232) :
    Calls Try.prog 8 #[.slice a0 len0 cap0, .slice a1 len1 cap1] w fun e w' => e = .returned (.bool true) ∧ Below w.heap.size w w' := by
  obtain ⟨l0, rfl, hr0, hm0, hw0, hc0⟩ := ReadsInt.ofRowC w0
  obtain ⟨l1, rfl, hr1, hm1, hw1, hc1⟩ := ReadsInt.ofRowC w1
  obtain ⟨k, h⟩ := P l0 l1 hm0 y0 hw0 hm1 y1 hw1
  refine (laws_FnTreesMerge.calls k _ _ l0 _ _ l1 true w (Kd.C_of_reads (d := (0 : Int)) (h1 := fun _ => rfl) hr0) hc0 (Kd.C_of_reads (d := (0 : Int)) (h1 := fun _ => rfl) hr1) hc1 h rfl).mono ?_
  rintro e w' ⟨rfl, hd⟩
  exact ⟨rfl, hd⟩

end Go.Proofs.Ytbbpianfoimejaa.Q
