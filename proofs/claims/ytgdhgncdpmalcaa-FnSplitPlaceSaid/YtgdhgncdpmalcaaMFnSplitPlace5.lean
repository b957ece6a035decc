/- Part 5 of what the proof of this law rests on: the functions of the translation as plain Lean functions with their walks, and the plain laws behind. -/
import Derived.Below
import Derived.Test.YtgdhgncdpmalcaaMFnSplitPlace4
namespace Go.Proofs.Ytgdhgncdpmalcaa.Q
open Go.RowKit Go.Proofs.YtgdhgncdpmalcaaW.PrintWords Go.Proofs.YtgdhgncdpmalcaaW.PrintLast Go.Proofs.YtgdhgncdpmalcaaW.PrintMore
attribute [local go_sem] max2_int min2_int max_two min_two max_three min_three max_four min_four
set_option linter.unusedVariables false
set_option linter.unusedSimpArgs false

/-! ### spec_l92Split: function 65 -/
def spec_l92Split.j0 : Nat → List (S32) → Int → Bool → List Int → Int → Option ((List (S32)) × Int × Int × Int)
 | 0, _, _, _, _, _ => none
 | k + 1, x5, x6, x18, x1000, x1001 => if x18 = true then ((spec_l6Rd_pick.f k x1000 x1001 3).bind fun bt590 => ((spec_l6Rd_pick.f k x1000 bt590.2 6).bind fun bt592 => (some (x5, bt590.1, bt592.1, bt592.2)))) else ((spec_l6Rd_pick.f k x1000 x1001 (wrap64 (x6 - 2))).bind fun bt594 => ((spec_l6Rd_pick.f k x1000 bt594.2 (wrap64 ((wrap64 (x6 - 2)) - bt594.1))).bind fun bt596 => (some (x5, bt594.1, mn (wrap64 (x6 - 1)) (wrap64 ((wrap64 (bt594.1 + 2)) + bt596.1)), bt596.2))))
def spec_l92Split.f (k : Nat) (s0_0 : List Int) (s0_1 : Int) : Option ((List (S32)) × Int × Int × Int) := (spec_l92Poly.f k s0_0 s0_1).bind fun bt584 => (if (bt584.1.length : Int) < 4 then (spec_l92Split.j0 k bt584.1 (bt584.1.length : Int) true s0_0 bt584.2) else ((spec_l6Rd_pick.f k s0_0 bt584.2 16).bind fun bt588 => (spec_l92Split.j0 k bt584.1 (bt584.1.length : Int) (bt588.1 == 0) s0_0 bt588.2)))
set_option maxHeartbeats 8000000 in
set_option maxRecDepth 100000 in
theorem spec_l92Split.calls (k : Nat) (g : Nat) (s0_0 : List Int) (s0_1 : Int) (r1 : List (S32)) (r2 : Int) (r3 : Int) (r4 : Int) (w0 w : World) (hI : IsS81 w0 w g s0_0 s0_1) (hB : Below w0.heap.size w0 w) (h : spec_l92Split.f k s0_0 s0_1 = some (r1, r2, r3, r4)) :
  Calls Try.prog 65 #[.pointer (some ⟨g, 0, none⟩)] w fun e w' => ∃ v0_ : Value, e = .returned (.tuple #[v0_, .int .i64 r2, .int .i64 r3]) ∧ Kd.Q k32 32 w' w.heap.size (fun _ => True) v0_ r1 ∧ IsS81 w0 w' g s0_0 r4 ∧ Below w0.heap.size w0 w' ∧ KeepBut w w' g none := by
 have HI0 := Aside0.mk hI
 have HK := Aside0.mk (KeepBut.refl w g none)
 have HL := Aside0.mk hB.size
 clear hI
 have HW0 := Aside0.mk hB.size
 have HB := Aside0.mk hB
 clear hB
 have H : ((spec_l92Poly.f k s0_0 s0_1).bind fun bt584 => (if (bt584.1.length : Int) < 4 then (spec_l92Split.j0 k bt584.1 (bt584.1.length : Int) true s0_0 bt584.2) else ((spec_l6Rd_pick.f k s0_0 bt584.2 16).bind fun bt588 => (spec_l92Split.j0 k bt584.1 (bt584.1.length : Int) (bt588.1 == 0) s0_0 bt588.2)))) = some (r1, r2, r3, r4) := h
 clear h
 replace H := Option.bind_eq_some_iff.mp H
 obtain ⟨⟨t584, t587⟩, A20, H⟩ := H
 replace H : (if (t584.length : Int) < 4 then (spec_l92Split.j0 k t584 (t584.length : Int) true s0_0 t587) else ((spec_l6Rd_pick.f k s0_0 t587 16).bind fun bt588 => (spec_l92Split.j0 k t584 (t584.length : Int) (bt588.1 == 0) s0_0 bt588.2))) = some (r1, r2, r3, r4) := H
 have A2 := Aside0.mk A20
 clear A20
 have HC3 := Aside0.mk H
 clear H
 go_enter Try.func65, Try.ntmps65
 go_upto_region 3 with (first | ((with_reducible refine gate_callee (f := 41) rfl ?_); refine goesL_ (some 9) rfl rfl Try.func41 (by kernel_rfl) rfl #[.pointer (some ⟨g, 0, none⟩)] rfl qq3 ?_; (with_reducible refine (spec_l92Poly.calls k g s0_0 s0_1 t584 t587 w0 _ ?side1 ?side2 A2.out).mono ?_); (case side1 => exact qq8); (case side2 => exact qq6); rintro e w4 ⟨v585, rfl, ho0, hi, hb, hk⟩; refine ⟨_, rfl, ?_⟩; have n0_ := Aside0.mk (Kd.Q_lower ho0 (keep_size (w := w) (g := g) (row := none) qq4)); have n1_ := Aside0.mk (KeepBut.trans qq4 hk (.inl rfl)); have n2_ := Aside0.mk (hb); have n3_ := Aside0.mk (hi); clear HK; clear HB; clear HI0; have HO586 := n0_; have HK := n1_; have HB := n2_; have HI0 := n3_; clear n0_ n1_ n2_ n3_; (try clear hb); (try clear hb2); (try clear hk); (try clear hi); (try clear ho0); obtain ⟨Ao5, co5, eo5, _⟩ := Kd.Q_slice HO586.out; subst eo5))
 (try simp only [Act.put, List.setIfInBounds_toArray, List.set_cons_zero, List.set_cons_succ])
 go_cut [18] (fun v18 wc => ∃ (kq : Nat) (x18_2 : Bool) (x1001_2 : Int), v18 = .bool x18_2 ∧ Aside0 (spec_l92Split.j0 kq t584 (t584.length : Int) x18_2 s0_0 x1001_2 = some (r1, r2, r3, r4)) ∧ Aside0 (kq ≤ k) ∧ Aside0 (Kd.Q k32 32 wc w.heap.size (fun _ => True) (.slice Ao5 t584.length co5) t584) ∧ Aside0 (IsS81 w0 wc g s0_0 x1001_2) ∧ Aside0 (KeepBut w wc g none) ∧ Aside0 (Below w0.heap.size w0 wc))
 case first =>
  have H := HC3.out
  clear HC3
  by_cases c6 : (t584.length : Int) < 4
  ·rw [if_pos c6] at H
   have c6b0 : decide ((t584.length : Int) < 4) = true := decide_eq_true c6
   have c6b1 : decide (t584.length < 4) = true := decide_eq_true (by omega)
   clear c6
   (first | rw [c6b0] | (simp only [i64_w, i32_w]; rw [c6b0]) | skip)
   have H' := Aside0.mk H
   clear H
   go_wp2
   go_meet
   case rel => exact ⟨_, (true), (t587), qq25, H', ⟨qq40⟩, ⟨qq16 HO586.out⟩, ⟨qq8⟩, ⟨qq4⟩, ⟨qq6⟩⟩
  ·rw [if_neg c6] at H
   have c6b0 : decide ((t584.length : Int) < 4) = false := decide_eq_false c6
   have c6b1 : decide (t584.length < 4) = false := decide_eq_false (by omega)
   clear c6
   (first | rw [c6b0] | (simp only [i64_w, i32_w]; rw [c6b0]) | skip)
   replace H := Option.bind_eq_some_iff.mp H
   obtain ⟨⟨t588, t589⟩, A70, H⟩ := H
   replace H : (spec_l92Split.j0 k t584 (t584.length : Int) (t588 == 0) s0_0 t589) = some (r1, r2, r3, r4) := H
   have A7 := Aside0.mk A70
   clear A70
   have H' := Aside0.mk H
   clear H
   go_wp2_with (first | (go_at_call 48; (with_reducible refine (spec_l6Rd_pick.calls k g s0_0 t587 16 t588 t589 w0 _ ?side1 ?side2 A7.out).mono ?_); (case side1 => exact qq8); (case side2 => exact qq6); rintro e w8 ⟨rfl, hi, hb, hk⟩; have n0_ := Aside0.mk (Kd.Q_mono (Kd.Q_keep (IsS81.apartQ (show IsS81 w0 _ g s0_0 t587 from by repeat (first | (with_reducible first | exact HI0.out | apply IsS81.alloc | apply IsS81.drewN | apply IsS81.drew | apply IsS81.set_1) | exact HI0.out)) (qq16 HO586.out) (by decide)) hk (fun _ h => h.2)) (fun _ h => h.1)); have n1_ := Aside0.mk (KeepBut.trans qq4 hk (.inl rfl)); have n2_ := Aside0.mk (hb); have n3_ := Aside0.mk (hi); clear HO586; clear HK; clear HB; clear HI0; have HO586 := n0_; have HK := n1_; have HB := n2_; have HI0 := n3_; clear n0_ n1_ n2_ n3_; (try clear hb); (try clear hb2); (try clear hk); (try clear hi)))
   go_meet
   case rel => exact ⟨_, ((t588 == 0)), (t589), qq25, H', ⟨qq40⟩, ⟨qq16 HO586.out⟩, ⟨qq8⟩, ⟨qq4⟩, ⟨qq6⟩⟩
 case rest =>
  clear HC3
  try clear p2
  try clear c4
  try clear c6
  try clear c6b0
  try clear c6b1
  obtain ⟨kq, x18_2, x1001_2, rfl, HA, HJ2, HO_5, HI0, HK, HB⟩ := hcut
  cases kq with
  | zero => exact absurd HA.out (by simp [spec_l92Split.j0])
  | succ kj2 =>
   have H := HA.out
   clear HA
   simp only [spec_l92Split.j0] at H
   by_cases c9 : x18_2 = true
   ·subst c9
    have H1 : ((spec_l6Rd_pick.f kj2 s0_0 x1001_2 3).bind fun bt590 => ((spec_l6Rd_pick.f kj2 s0_0 bt590.2 6).bind fun bt592 => (some (t584, bt590.1, bt592.1, bt592.2)))) = some (r1, r2, r3, r4) := by rw [if_pos rfl] at H; exact H
    clear H
    have H := H1
    clear H1
    replace H := Option.bind_eq_some_iff.mp H
    obtain ⟨⟨t590, t591⟩, A100, H⟩ := H
    replace H : ((spec_l6Rd_pick.f kj2 s0_0 t591 6).bind fun bt592 => (some (t584, t590, bt592.1, bt592.2))) = some (r1, r2, r3, r4) := H
    have A10 := Aside0.mk A100
    clear A100
    replace H := Option.bind_eq_some_iff.mp H
    obtain ⟨⟨t592, t593⟩, A110, H⟩ := H
    replace H : (some (t584, t590, t592, t593)) = some (r1, r2, r3, r4) := H
    have A11 := Aside0.mk A110
    clear A110
    simp only [Option.some.injEq, Prod.mk.injEq] at H
    obtain ⟨rfl, rfl, rfl, rfl⟩ := H
    go_wp2_with (first | ((with_reducible refine gate_callee (f := 48) rfl ?_); refine goesL_ (some 21) rfl rfl Try.func48 (by kernel_rfl) rfl #[.pointer (some ⟨g, 0, none⟩), .int .i64 3] rfl qq3 ?_; (with_reducible refine (spec_l6Rd_pick.calls kj2 g s0_0 x1001_2 3 t590 t591 w0 _ ?side1 ?side2 A10.out).mono ?_); (case side1 => exact qq8); (case side2 => exact qq6); rintro e w12 ⟨rfl, hi, hb, hk⟩; refine ⟨_, rfl, ?_⟩; have n0_ := Aside0.mk (Kd.Q_mono (Kd.Q_keep (IsS81.apartQ (show IsS81 w0 _ g s0_0 x1001_2 from by repeat (first | (with_reducible first | exact HI0.out | apply IsS81.alloc | apply IsS81.drewN | apply IsS81.drew | apply IsS81.set_1) | exact HI0.out)) (qq16 HO_5.out) (by decide)) hk (fun _ h => h.2)) (fun _ h => h.1)); have n1_ := Aside0.mk (KeepBut.trans qq4 hk (.inl rfl)); have n2_ := Aside0.mk (hb); have n3_ := Aside0.mk (hi); clear HO_5; clear HK; clear HB; clear HI0; have HO_5 := n0_; have HK := n1_; have HB := n2_; have HI0 := n3_; clear n0_ n1_ n2_ n3_; (try clear hb); (try clear hb2); (try clear hk); (try clear hi)) | ((with_reducible refine gate_callee (f := 48) rfl ?_); refine goesL_ (some 23) rfl rfl Try.func48 (by kernel_rfl) rfl #[.pointer (some ⟨g, 0, none⟩), .int .i64 6] rfl qq3 ?_; (with_reducible refine (spec_l6Rd_pick.calls kj2 g s0_0 t591 6 t592 t593 w0 _ ?side1 ?side2 A11.out).mono ?_); (case side1 => exact qq8); (case side2 => exact qq6); rintro e w13 ⟨rfl, hi, hb, hk⟩; refine ⟨_, rfl, ?_⟩; have n0_ := Aside0.mk (Kd.Q_mono (Kd.Q_keep (IsS81.apartQ (show IsS81 w0 _ g s0_0 t591 from by repeat (first | (with_reducible first | exact HI0.out | apply IsS81.alloc | apply IsS81.drewN | apply IsS81.drew | apply IsS81.set_1) | exact HI0.out)) (qq16 HO_5.out) (by decide)) hk (fun _ h => h.2)) (fun _ h => h.1)); have n1_ := Aside0.mk (KeepBut.trans qq4 hk (.inl rfl)); have n2_ := Aside0.mk (hb); have n3_ := Aside0.mk (hi); clear HO_5; clear HK; clear HB; clear HI0; have HO_5 := n0_; have HK := n1_; have HB := n2_; have HI0 := n3_; clear n0_ n1_ n2_ n3_; (try clear hb); (try clear hb2); (try clear hk); (try clear hi)))
    go_ret3
    exact ⟨_, qq10, qq16 HO_5.out, qq8, qq6, qq4⟩
   ·replace c9 := Bool.eq_false_iff.mpr c9
    subst c9
    have H1 : ((spec_l6Rd_pick.f kj2 s0_0 x1001_2 (wrap64 ((t584.length : Int) - 2))).bind fun bt594 => ((spec_l6Rd_pick.f kj2 s0_0 bt594.2 (wrap64 ((wrap64 ((t584.length : Int) - 2)) - bt594.1))).bind fun bt596 => (some (t584, bt594.1, mn (wrap64 ((t584.length : Int) - 1)) (wrap64 ((wrap64 (bt594.1 + 2)) + bt596.1)), bt596.2)))) = some (r1, r2, r3, r4) := by rw [if_neg (show ¬ (false = true) by decide)] at H; exact H
    clear H
    have H := H1
    clear H1
    replace H := Option.bind_eq_some_iff.mp H
    obtain ⟨⟨t594, t595⟩, A140, H⟩ := H
    replace H : ((spec_l6Rd_pick.f kj2 s0_0 t595 (wrap64 ((wrap64 ((t584.length : Int) - 2)) - t594))).bind fun bt596 => (some (t584, t594, mn (wrap64 ((t584.length : Int) - 1)) (wrap64 ((wrap64 (t594 + 2)) + bt596.1)), bt596.2))) = some (r1, r2, r3, r4) := H
    have A14 := Aside0.mk A140
    clear A140
    replace H := Option.bind_eq_some_iff.mp H
    obtain ⟨⟨t596, t597⟩, A150, H⟩ := H
    replace H : (some (t584, t594, mn (wrap64 ((t584.length : Int) - 1)) (wrap64 ((wrap64 (t594 + 2)) + t596)), t597)) = some (r1, r2, r3, r4) := H
    have A15 := Aside0.mk A150
    clear A150
    obtain ⟨ji16, hji16⟩ : ∃ j_ : Int, (mn (wrap64 ((t584.length : Int) - 1)) (wrap64 ((wrap64 (t594 + 2)) + t596))) = j_ := ⟨_, rfl⟩
    replace H : (some (t584, t594, ji16, t597)) = some (r1, r2, r3, r4) := by first | (rw [hji16] at H; exact H) | (simp only [hji16] at H ⊢; exact H)
    (try rw [hji16] at A14)
    (try rw [hji16] at A15)
    have hji16_ : (if (wrap64 ((wrap64 (t594 + 2)) + t596)) < (wrap64 ((t584.length : Int) - 1)) then (wrap64 ((wrap64 (t594 + 2)) + t596)) else (wrap64 ((t584.length : Int) - 1))) = ji16 := hji16
    simp only [Option.some.injEq, Prod.mk.injEq] at H
    obtain ⟨rfl, rfl, rfl, rfl⟩ := H
    go_wp2_with (first | ((with_reducible refine gate_callee (f := 48) rfl ?_); refine goesL_ (some 27) rfl rfl Try.func48 (by kernel_rfl) rfl #[.pointer (some ⟨g, 0, none⟩), .int .i64 (wrap64 ((t584.length : Int) - 2))] rfl qq3 ?_; (with_reducible refine (spec_l6Rd_pick.calls kj2 g s0_0 x1001_2 (wrap64 ((t584.length : Int) - 2)) t594 t595 w0 _ ?side1 ?side2 A14.out).mono ?_); (case side1 => exact qq8); (case side2 => exact qq6); rintro e w17 ⟨rfl, hi, hb, hk⟩; refine ⟨_, rfl, ?_⟩; have n0_ := Aside0.mk (Kd.Q_mono (Kd.Q_keep (IsS81.apartQ (show IsS81 w0 _ g s0_0 x1001_2 from by repeat (first | (with_reducible first | exact HI0.out | apply IsS81.alloc | apply IsS81.drewN | apply IsS81.drew | apply IsS81.set_1) | exact HI0.out)) (qq16 HO_5.out) (by decide)) hk (fun _ h => h.2)) (fun _ h => h.1)); have n1_ := Aside0.mk (KeepBut.trans qq4 hk (.inl rfl)); have n2_ := Aside0.mk (hb); have n3_ := Aside0.mk (hi); clear HO_5; clear HK; clear HB; clear HI0; have HO_5 := n0_; have HK := n1_; have HB := n2_; have HI0 := n3_; clear n0_ n1_ n2_ n3_; (try clear hb); (try clear hb2); (try clear hk); (try clear hi)) | ((with_reducible refine gate_callee (f := 48) rfl ?_); refine goesL_ (some 39) rfl rfl Try.func48 (by kernel_rfl) rfl #[.pointer (some ⟨g, 0, none⟩), .int .i64 (wrap64 ((wrap64 ((t584.length : Int) - 2)) - t594))] rfl qq3 ?_; (with_reducible refine (spec_l6Rd_pick.calls kj2 g s0_0 t595 (wrap64 ((wrap64 ((t584.length : Int) - 2)) - t594)) t596 t597 w0 _ ?side1 ?side2 A15.out).mono ?_); (case side1 => exact qq8); (case side2 => exact qq6); rintro e w18 ⟨rfl, hi, hb, hk⟩; refine ⟨_, rfl, ?_⟩; have n0_ := Aside0.mk (Kd.Q_mono (Kd.Q_keep (IsS81.apartQ (show IsS81 w0 _ g s0_0 t595 from by repeat (first | (with_reducible first | exact HI0.out | apply IsS81.alloc | apply IsS81.drewN | apply IsS81.drew | apply IsS81.set_1) | exact HI0.out)) (qq16 HO_5.out) (by decide)) hk (fun _ h => h.2)) (fun _ h => h.1)); have n1_ := Aside0.mk (KeepBut.trans qq4 hk (.inl rfl)); have n2_ := Aside0.mk (hb); have n3_ := Aside0.mk (hi); clear HO_5; clear HK; clear HB; clear HI0; have HO_5 := n0_; have HK := n1_; have HB := n2_; have HI0 := n3_; clear n0_ n1_ n2_ n3_; (try clear hb); (try clear hb2); (try clear hk); (try clear hi)))
    go_ret3
    exact ⟨_, by first | rfl | (simp [errW_none, errW_some] <;> rfl) | (simp only [← hji16]; first | rfl | (simp [errW_none, errW_some] <;> rfl)) | (simp [*, errW_none, errW_some] <;> rfl), qq16 HO_5.out, qq8, qq6, qq4⟩

end Go.Proofs.Ytgdhgncdpmalcaa.Q
namespace Go.Proofs.Ytgdhgncdpmalcaa.Q
open Go.RowKit Go.Proofs.YtgdhgncdpmalcaaW.PrintWords Go.Proofs.YtgdhgncdpmalcaaW.PrintLast Go.Proofs.YtgdhgncdpmalcaaW.PrintMore
attribute [local go_sem] max2_int min2_int max_two min_two max_three min_three max_four min_four
set_option linter.unusedVariables false
set_option linter.unusedSimpArgs false

/-! ### spec_DrawParcelSplit: function 33 -/
def spec_DrawParcelSplit.f (k : Nat) (l0 : List Int) : Option ((List (S32)) × Int × Int) := (spec_l6Open.f l0).bind fun bt640 => ((spec_l92Split.f k bt640.1 bt640.2).bind fun bt643 => (some (bt643.1, bt643.2.1, bt643.2.2.1)))
set_option maxHeartbeats 8000000 in
set_option maxRecDepth 100000 in
theorem spec_DrawParcelSplit.calls (k : Nat) (A0 : Option Addr) (c0 : Nat) (l0 : List Int) (r1 : List (S32)) (r2 : Int) (r3 : Int) (w : World) (hr0 : Kd.C (Kd.int .u8) w A0 l0.length l0) (hc0 : l0.length ≤ c0) (h : spec_DrawParcelSplit.f k l0 = some (r1, r2, r3)) :
  Calls Try.prog 33 #[.slice A0 l0.length c0] w fun e w' => ∃ v0_ : Value, e = .returned (.tuple #[v0_, .int .i64 r2, .int .i64 r3]) ∧ Kd.Q k32 32 w' w.heap.size (fun _ => True) v0_ r1 ∧ Below w.heap.size w w' := by
 have HR0 := Aside0.mk hr0
 have HC0 := Aside0.mk hc0
 clear hr0 hc0
 have HB := Aside0.mk (Below.refl w.heap.size w)
 have H : ((spec_l6Open.f l0).bind fun bt640 => ((spec_l92Split.f k bt640.1 bt640.2).bind fun bt643 => (some (bt643.1, bt643.2.1, bt643.2.2.1)))) = some (r1, r2, r3) := h
 clear h
 replace H := Option.bind_eq_some_iff.mp H
 obtain ⟨⟨t640, t641⟩, A20, H⟩ := H
 replace H : ((spec_l92Split.f k t640 t641).bind fun bt643 => (some (bt643.1, bt643.2.1, bt643.2.2.1))) = some (r1, r2, r3) := H
 have A2 := Aside0.mk A20
 clear A20
 replace H := Option.bind_eq_some_iff.mp H
 obtain ⟨⟨t643, t646, t647, t648⟩, A30, H⟩ := H
 replace H : (some (t643, t646, t647)) = some (r1, r2, r3) := H
 have A3 := Aside0.mk A30
 clear A30
 simp only [Option.some.injEq, Prod.mk.injEq] at H
 obtain ⟨rfl, rfl, rfl⟩ := H
 go_enter Try.func33, Try.ntmps33
 go_wp2_with (first | ((with_reducible refine gate_callee (f := 42) rfl ?_); refine goesL_ (some 6) rfl rfl Try.func42 (by kernel_rfl) rfl #[.slice A0 l0.length c0] rfl qq3 ?_; (with_reducible refine (spec_l6Open.calls _ _ l0 t640 t641 w _ ?side1 ?side2 ?side3 A2.out).mono ?_); (case side1 => exact qq1); (case side2 => exact HR0.out); (case side3 => exact HC0.out); rintro e w4 ⟨g642, rfl, hi, hb, hb2⟩; refine ⟨_, rfl, ?_⟩; have n0_ := Aside0.mk (hb); have n1_ := Aside0.mk (hi); clear HB; have HB := n0_; have HI642 := n1_; clear n0_ n1_; (try clear hb); (try clear hb2); (try clear hk); (try clear hi)) | ((with_reducible refine gate_callee (f := 65) rfl ?_); refine goesL_ (some 7) rfl rfl Try.func65 (by kernel_rfl) rfl #[.pointer (some ⟨g642, 0, none⟩)] rfl qq3 ?_; (with_reducible refine (spec_l92Split.calls k g642 t640 t641 t643 t646 t647 t648 w _ ?side1 ?side2 A3.out).mono ?_); (case side1 => repeat (first | (with_reducible first | exact HI642.out | apply IsS81.alloc | apply IsS81.drewN | apply IsS81.drew | apply IsS81.set_1) | exact HI642.out)); (case side2 => exact qq55); rintro e w5 ⟨v644, rfl, ho0, hi, hb, hk⟩; refine ⟨_, rfl, ?_⟩; have n0_ := Aside0.mk (Kd.Q_lower ho0 (below_size qq55)); have n1_ := Aside0.mk (hb); have n2_ := Aside0.mk (hi); clear HB; clear HI642; have HO645 := n0_; have HB := n1_; have HI642 := n2_; clear n0_ n1_ n2_; (try clear hb); (try clear hb2); (try clear hk); (try clear hi); (try clear ho0)))
 go_ret3
 exact ⟨_, qq10, qq16 HO645.out, qq55⟩

end Go.Proofs.Ytgdhgncdpmalcaa.Q
namespace Go.Proofs.Ytgdhgncdpmalcaa.Ring
open Go.RowKit Go.Shelf Go.Proofs.Ytgdhgncdpmalcaa.Q Go.Proofs.Ytgdhgncdpmalcaa.Drawn Go.Proofs.YtgdhgncdpmalcaaW.PrintWords Go.Proofs.YtgdhgncdpmalcaaW.PrintLast Go.Proofs.YtgdhgncdpmalcaaW.PrintMore
set_option linter.unusedVariables false
set_option linter.unusedSimpArgs false
attribute [local go_sem] Oper.semAt_some
set_option maxRecDepth 100000 in
set_option maxHeartbeats 4000000 in
theorem parcel_isnt_a (A0 : Option Addr) (c0 : Nat) (l0 : List Pt) (w : World) (hr0 : Kd.C k32 w A0 l0.length l0) (hc0 : l0.length ≤ c0) (h : okS l0 = false) :
    Calls Try.prog 52 #[.slice A0 l0.length c0] w (NoRing w) := by
  have HR0 := Aside0.mk hr0
  have HC0 := Aside0.mk hc0
  have HX := Aside0.mk h
  clear hr0 hc0 h
  go_enter Try.func52, Try.ntmps52
  go_wp2_with (go_at_call 49; refine (simple_isnt A0 c0 l0 _ ?s1 HC0.out HX.out).mono ?_; (case s1 => exact qq41); rintro e w1 ⟨rfl, hb⟩; have hz : w.heap.size < w1.heap.size := qq60; have hz1 : ¬ w1.heap.size = w.heap.size := (by omega); have hz2 : ¬ w.heap.size = w1.heap.size := (by omega); have HB := Aside0.mk (((Below.refl w.heap.size w).alloc (Nat.le_refl _) _).trans (hb.mono (by simp))); have hb' := Below.mono hb (B' := w.heap.size + 1) (by simp); have z0 := (at_new hb' 0).1; have z1 := (at_new hb' 1).1; have y0 := (at_new hb' 0).2; have y1 := (at_new hb' 1).2; simp [go_sem] at z0 z1 y0 y1;  clear hb hb')
  refine bodyPost_ret (v := .tuple #[.agg #[.pointer none, .int .i64 0], .bool false]) (by simp [results, Try.results52, go_sem, z0, z1, hz, hz1, hz2]) rfl ⟨rfl, ?_⟩
  exact ((HB.out.setCell (p := ⟨w.heap.size, 0, none⟩) (Nat.le_refl _) _).setCell (p := ⟨w.heap.size, 1, none⟩) (Nat.le_refl _) _).alloc (by simp; omega) _

set_option maxRecDepth 100000 in
set_option maxHeartbeats 4000000 in
theorem parcel_isnt_b (A0 : Option Addr) (c0 : Nat) (l0 : List Pt) (w : World) (hr0 : Kd.C k32 w A0 l0.length l0) (hc0 : l0.length ≤ c0) (h : okS l0 = true) (ha : areaS l0 l0.length ≤ 0) :
    Calls Try.prog 52 #[.slice A0 l0.length c0] w (NoRing w) := by
  have HR0 := Aside0.mk hr0
  have HC0 := Aside0.mk hc0
  have HX := Aside0.mk h
  clear hr0 hc0 h
  go_enter Try.func52, Try.ntmps52
  go_wp2_with (first | (go_at_call 49; refine (simple_yes A0 c0 l0 _ ?s1 HC0.out HX.out).mono ?_; (case s1 => exact qq41); rintro e w1 ⟨bs, rfl, hR, hlo0, hb⟩; have HR := Aside0.mk hR; have HLO := Aside0.mk (fun j hj => (show w.heap.size + 1 ≤ bs j from by have := hlo0 j hj; simpa using this)); have hz : w.heap.size < w1.heap.size := qq60; have hz1 : ¬ w1.heap.size = w.heap.size := (by omega); have hz2 : ¬ w.heap.size = w1.heap.size := (by omega); have HB := Aside0.mk (((Below.refl w.heap.size w).alloc (Nat.le_refl _) _).trans (hb.mono (by simp))); have hb' := Below.mono hb (B' := w.heap.size + 1) (by simp); have z0 := (at_new hb' 0).1; have z1 := (at_new hb' 1).1; have y0 := (at_new hb' 0).2; have y1 := (at_new hb' 1).2; simp [go_sem] at z0 z1 y0 y1;  clear hb hb' hR hlo0) | (go_at_call 44; refine (area_calls w1.heap.size bs l0 _ (HR.out.below ((Below.refl _ _).alloc (Nat.le_refl _) _)) (by simp)).mono ?_; rintro e w2 ⟨rfl, hb2⟩; have hs2 : w1.heap.size + 1 ≤ w2.heap.size := qq75; have HB2 := Aside0.mk (HB.out.alloc HB.out.size (.cells #[.pointer (some ⟨bs 0, 0, none⟩), .int .i64 l0.length] 54) |>.trans (hb2.mono qq84)); have hb1 : Below (w1.heap.size + 1) (w1.alloc (.cells #[.pointer (some ⟨bs 0, 0, none⟩), .int .i64 l0.length] 54)) w2 := hb2.mono (by simp); have v0 := (at_new hb1 0).1; have v1 := (at_new hb1 1).1; simp at v0 v1; have hb3 := ((Below.refl w1.heap.size w1).alloc (Nat.le_refl _) (.cells #[.pointer (some ⟨bs 0, 0, none⟩), .int .i64 l0.length] 54)).trans (hb1.mono (by omega)); have q0 := (hb3.cell (p := ⟨w.heap.size, 0, none⟩) hz).trans z0; have q1 := (hb3.cell (p := ⟨w.heap.size, 1, none⟩) hz).trans z1; have x0 := (hb3.frozen (p := ⟨w.heap.size, 0, none⟩) hz).trans y0; have x1 := (hb3.frozen (p := ⟨w.heap.size, 1, none⟩) hz).trans y1; have HR2 := Aside0.mk ((HR.out.below hb3).mono (show w1.heap.size ≤ w2.heap.size by omega)); clear hb2 hb1 hb3 z0 z1 y0 y1))
  refine bodyPost_ret (v := .tuple #[.agg #[.pointer none, .int .i64 0], .bool false]) (by simp [results, Try.results52, go_sem, q0, q1, hz, hz1, hz2]) rfl ⟨rfl, ?_⟩
  exact (HB2.out.setCell (p := ⟨w.heap.size, 0, none⟩) (Nat.le_refl _) _).setCell (p := ⟨w.heap.size, 1, none⟩) (Nat.le_refl _) _

set_option maxRecDepth 100000 in
set_option maxHeartbeats 4000000 in
theorem parcel_is (A0 : Option Addr) (c0 : Nat) (l0 : List Pt) (w : World) (hr0 : Kd.C k32 w A0 l0.length l0) (hc0 : l0.length ≤ c0) (h : okS l0 = true) (ha : ¬ areaS l0 l0.length ≤ 0) :
    Calls Try.prog 52 #[.slice A0 l0.length c0] w (IsRing w l0) := by
  have HR0 := Aside0.mk hr0
  have HC0 := Aside0.mk hc0
  have HX := Aside0.mk h
  clear hr0 hc0 h
  go_enter Try.func52, Try.ntmps52
  go_wp2_with (first | (go_at_call 49; refine (simple_yes A0 c0 l0 _ ?s1 HC0.out HX.out).mono ?_; (case s1 => exact qq41); rintro e w1 ⟨bs, rfl, hR, hlo0, hb⟩; have HR := Aside0.mk hR; have HLO := Aside0.mk (fun j hj => (show w.heap.size + 1 ≤ bs j from by have := hlo0 j hj; simpa using this)); have hz : w.heap.size < w1.heap.size := qq60; have hz1 : ¬ w1.heap.size = w.heap.size := (by omega); have hz2 : ¬ w.heap.size = w1.heap.size := (by omega); have HB := Aside0.mk (((Below.refl w.heap.size w).alloc (Nat.le_refl _) _).trans (hb.mono (by simp))); have hb' := Below.mono hb (B' := w.heap.size + 1) (by simp); have z0 := (at_new hb' 0).1; have z1 := (at_new hb' 1).1; have y0 := (at_new hb' 0).2; have y1 := (at_new hb' 1).2; simp [go_sem] at z0 z1 y0 y1;  clear hb hb' hR hlo0) | (go_at_call 44; refine (area_calls w1.heap.size bs l0 _ (HR.out.below ((Below.refl _ _).alloc (Nat.le_refl _) _)) (by simp)).mono ?_; rintro e w2 ⟨rfl, hb2⟩; have hs2 : w1.heap.size + 1 ≤ w2.heap.size := qq75; have HB2 := Aside0.mk (HB.out.alloc HB.out.size (.cells #[.pointer (some ⟨bs 0, 0, none⟩), .int .i64 l0.length] 54) |>.trans (hb2.mono qq84)); have hb1 : Below (w1.heap.size + 1) (w1.alloc (.cells #[.pointer (some ⟨bs 0, 0, none⟩), .int .i64 l0.length] 54)) w2 := hb2.mono (by simp); have v0 := (at_new hb1 0).1; have v1 := (at_new hb1 1).1; simp at v0 v1; have hb3 := ((Below.refl w1.heap.size w1).alloc (Nat.le_refl _) (.cells #[.pointer (some ⟨bs 0, 0, none⟩), .int .i64 l0.length] 54)).trans (hb1.mono (by omega)); have q0 := (hb3.cell (p := ⟨w.heap.size, 0, none⟩) hz).trans z0; have q1 := (hb3.cell (p := ⟨w.heap.size, 1, none⟩) hz).trans z1; have x0 := (hb3.frozen (p := ⟨w.heap.size, 0, none⟩) hz).trans y0; have x1 := (hb3.frozen (p := ⟨w.heap.size, 1, none⟩) hz).trans y1; have HR2 := Aside0.mk ((HR.out.below hb3).mono (show w1.heap.size ≤ w2.heap.size by omega)); clear hb2 hb1 hb3 z0 z1 y0 y1))
  refine bodyPost_ret (v := .tuple #[.agg #[.pointer (some ⟨bs 0, 0, none⟩), .int .i64 l0.length], .bool true]) (by simp [results, Try.results52, go_sem, q0, q1, hz, hz1, hz2]) rfl ⟨bs, rfl, ?_, fun j hj => by have := HLO.out j hj; omega, ?_⟩
  · exact ((HR2.out.setCell (p := ⟨w.heap.size, 0, none⟩) (fun j hj => by have := HLO.out j hj; dsimp only; omega) _).setCell (p := ⟨w.heap.size, 1, none⟩) (fun j hj => by have := HLO.out j hj; dsimp only; omega) _).mono (by simp)
  · exact (HB2.out.setCell (p := ⟨w.heap.size, 0, none⟩) (Nat.le_refl _) _).setCell (p := ⟨w.heap.size, 1, none⟩) (Nat.le_refl _) _

theorem parcel_no (A0 : Option Addr) (c0 : Nat) (l0 : List Pt) (w : World) (hr0 : Kd.C k32 w A0 l0.length l0) (hc0 : l0.length ≤ c0) (h : okP l0 = false) :
    Calls Try.prog 52 #[.slice A0 l0.length c0] w (NoRing w) := by
  cases hc : okS l0
  · exact parcel_isnt_a A0 c0 l0 w hr0 hc0 hc
  · exact parcel_isnt_b A0 c0 l0 w hr0 hc0 hc (by unfold okP at h; rw [hc, Bool.true_and, decide_eq_false_iff_not] at h; omega)
theorem parcel_yes (A0 : Option Addr) (c0 : Nat) (l0 : List Pt) (w : World) (hr0 : Kd.C k32 w A0 l0.length l0) (hc0 : l0.length ≤ c0) (h : okP l0 = true) :
    Calls Try.prog 52 #[.slice A0 l0.length c0] w (IsRing w l0) := by
  unfold okP at h
  rw [Bool.and_eq_true, decide_eq_true_eq] at h
  exact parcel_is A0 c0 l0 w hr0 hc0 h.1 (by omega)

set_option maxRecDepth 100000 in
set_option maxHeartbeats 4000000 in
theorem parcelValid_no (A0 : Option Addr) (c0 : Nat) (l0 : List Pt) (w : World) (hr0 : Kd.C k32 w A0 l0.length l0) (hc0 : l0.length ≤ c0) (h : okP l0 = false) :
    Calls Try.prog 21 #[.slice A0 l0.length c0] w fun e w' => e = .returned (.bool false) ∧ Below w.heap.size w w' := by
  have HR0 := Aside0.mk hr0
  have HC0 := Aside0.mk hc0
  have HX := Aside0.mk h
  clear hr0 hc0 h
  go_enter Try.func21, Try.ntmps21
  go_wp2_with (go_at_call 52; refine (parcel_no A0 c0 l0 _ ?s1 HC0.out HX.out).mono ?_; (case s1 => exact qq41); rintro e w1 ⟨rfl, hb⟩; have HB := Aside0.mk ((Below.refl w.heap.size w).trans hb); clear hb)
  go_ret
  exact ⟨rfl, HB.out.alloc HB.out.size _⟩

set_option maxRecDepth 100000 in
set_option maxHeartbeats 4000000 in
theorem parcelValid_yes (A0 : Option Addr) (c0 : Nat) (l0 : List Pt) (w : World) (hr0 : Kd.C k32 w A0 l0.length l0) (hc0 : l0.length ≤ c0) (h : okP l0 = true) :
    Calls Try.prog 21 #[.slice A0 l0.length c0] w fun e w' => e = .returned (.bool true) ∧ Below w.heap.size w w' := by
  have HR0 := Aside0.mk hr0
  have HC0 := Aside0.mk hc0
  have HX := Aside0.mk h
  clear hr0 hc0 h
  go_enter Try.func21, Try.ntmps21
  go_wp2_with (go_at_call 52; refine (parcel_yes A0 c0 l0 _ ?s1 HC0.out HX.out).mono ?_; (case s1 => exact qq41); rintro e w1 ⟨bs, rfl, hR, hlo0, hb⟩; have HR := Aside0.mk hR; have HB := Aside0.mk ((Below.refl w.heap.size w).trans hb); clear hb hR hlo0)
  go_ret
  exact ⟨rfl, HB.out.alloc HB.out.size _⟩

end Go.Proofs.Ytgdhgncdpmalcaa.Ring
namespace Go.Proofs.Ytgdhgncdpmalcaa.Q
open Go.RowKit Go.Proofs.YtgdhgncdpmalcaaW.PrintWords Go.Proofs.YtgdhgncdpmalcaaW.PrintLast Go.Proofs.YtgdhgncdpmalcaaW.PrintMore
attribute [local go_sem] max2_int min2_int max_two min_two max_three min_three max_four min_four
set_option linter.unusedVariables false
set_option linter.unusedSimpArgs false

/-! ### impl_ParcelValid: function 21 -/
def impl_ParcelValid.f (l0 : List (S32)) : Option (Bool) := if Go.Proofs.Ytgdhgncdpmalcaa.Ring.okP l0 then some true else some false
theorem impl_ParcelValid.calls (A0 : Option Addr) (c0 : Nat) (l0 : List (S32)) (r : Bool) (w : World) (hr0 : Kd.C k32 w A0 l0.length l0) (hc0 : l0.length ≤ c0) (h : impl_ParcelValid.f l0 = some r) :
  Calls Try.prog 21 #[.slice A0 l0.length c0] w fun e w' => e = .returned (.bool r) ∧ Below w.heap.size w w' := by
 unfold impl_ParcelValid.f at h
 by_cases c : Go.Proofs.Ytgdhgncdpmalcaa.Ring.okP l0 = true
 ·rw [if_pos c] at h
  obtain rfl := Option.some.inj h
  exact Go.Proofs.Ytgdhgncdpmalcaa.Ring.parcelValid_yes A0 c0 l0 w hr0 hc0 c
 ·rw [if_neg c] at h
  obtain rfl := Option.some.inj h
  exact Go.Proofs.Ytgdhgncdpmalcaa.Ring.parcelValid_no A0 c0 l0 w hr0 hc0 (Bool.eq_false_iff.2 c)

end Go.Proofs.Ytgdhgncdpmalcaa.Q
namespace Go.Proofs.Ytgdhgncdpmalcaa.Q
open Go.RowKit Go.Proofs.YtgdhgncdpmalcaaW.PrintWords Go.Proofs.YtgdhgncdpmalcaaW.PrintLast Go.Proofs.YtgdhgncdpmalcaaW.PrintMore
attribute [local go_sem] max2_int min2_int max_two min_two max_three min_three max_four min_four
set_option linter.unusedVariables false
set_option linter.unusedSimpArgs false

/-! ### impl_ParcelSplit: function 34 -/
def impl_ParcelSplit.j0 : Nat → List (S32) → Int → Int → Bool → Option ((List (S32)) × (List (S32)) × Bool)
 | 0, _, _, _, _ => none
 | k + 1, x0, x1, x2, x28 => if x28 = true then (some ((([] : List (S32))), (([] : List (S32))), false)) else ((some (([] : List (S32)) : List (S32))).bind fun y656 => (if 0 ≤ x1 then (if x1 ≤ (wrap64 (x2 + 1)) then (if (wrap64 (x2 + 1)) ≤ (x0.length : Int) then ((some ((x0.take ((wrap64 (x2 + 1)) : Int).toNat).drop (x1 : Int).toNat : List (S32))).bind fun y659 => (if y656.length + y659.length < 8796093022208 then ((some (y656 ++ y659 : List (S32))).bind fun y663 => ((some (([] : List (S32)) : List (S32))).bind fun y666 => (if 0 ≤ x2 then (if x2 ≤ (x0.length : Int) then ((some (x0.drop (x2 : Int).toNat : List (S32))).bind fun y669 => (if y666.length + y669.length < 8796093022208 then ((some (y666 ++ y669 : List (S32))).bind fun y673 => (if 0 ≤ (wrap64 (x1 + 1)) then (if (wrap64 (x1 + 1)) ≤ (x0.length : Int) then ((some (x0.take ((wrap64 (x1 + 1)) : Int).toNat : List (S32))).bind fun y676 => (if y673.length + y676.length < 8796093022208 then ((some (y673 ++ y676 : List (S32))).bind fun y680 => ((impl_ParcelValid.f y663).bind fun t683 => (if t683 = true then ((impl_ParcelValid.f y680).bind fun t684 => (if t684 = true then (some (y663, y680, true)) else (some ((([] : List (S32))), (([] : List (S32))), false)))) else (some ((([] : List (S32))), (([] : List (S32))), false))))) else (none))) else (none)) else (none))) else (none))) else (none)) else (none)))) else (none))) else (none)) else (none)) else (none)))
def impl_ParcelSplit.f (k : Nat) (l0 : List (S32)) (a1 : Int) (a2 : Int) : Option ((List (S32)) × (List (S32)) × Bool) := (impl_ParcelValid.f l0).bind fun t649 => (if t649 = true then (if a1 < 0 then (impl_ParcelSplit.j0 k l0 a1 a2 true) else (if a1 ≥ a2 then (impl_ParcelSplit.j0 k l0 a1 a2 true) else (impl_ParcelSplit.j0 k l0 a1 a2 (decide (a2 ≥ (l0.length : Int)))))) else (impl_ParcelSplit.j0 k l0 a1 a2 true))
set_option maxHeartbeats 8000000 in
set_option maxRecDepth 100000 in
theorem impl_ParcelSplit.calls (k : Nat) (A0 : Option Addr) (c0 : Nat) (l0 : List (S32)) (a1 : Int) (a2 : Int) (r1 : List (S32)) (r2 : List (S32)) (r3 : Bool) (w : World) (hr0 : Kd.C k32 w A0 l0.length l0) (hc0 : l0.length ≤ c0) (h : impl_ParcelSplit.f k l0 a1 a2 = some (r1, r2, r3)) :
  Calls Try.prog 34 #[.slice A0 l0.length c0, .int .i64 a1, .int .i64 a2] w fun e w' => ∃ v0_ v1_ : Value, e = .returned (.tuple #[v0_, v1_, .bool r3]) ∧ Kd.R k32 32 w' w.heap.size (fun k_ => some k_ ≠ (v1_ : Value).ownBlock) v0_ r1 ∧ Kd.R k32 32 w' w.heap.size (fun k_ => some k_ ≠ (v0_ : Value).ownBlock) v1_ r2 ∧ Below w.heap.size w w' := by
 have HR0 := Aside0.mk hr0
 have HC0 := Aside0.mk hc0
 clear hr0 hc0
 have HB := Aside0.mk (Below.refl w.heap.size w)
 have H : ((impl_ParcelValid.f l0).bind fun t649 => (if t649 = true then (if a1 < 0 then (impl_ParcelSplit.j0 k l0 a1 a2 true) else (if a1 ≥ a2 then (impl_ParcelSplit.j0 k l0 a1 a2 true) else (impl_ParcelSplit.j0 k l0 a1 a2 (decide (a2 ≥ (l0.length : Int)))))) else (impl_ParcelSplit.j0 k l0 a1 a2 true))) = some (r1, r2, r3) := h
 clear h
 have HC4 := Aside0.mk H
 clear H
 go_enter Try.func34, Try.ntmps34
 go_upto_region 1 with (fail)
 go_cut [28] (fun v28 wc => ∃ (kq : Nat) (x28_3 : Bool), v28 = .bool x28_3 ∧ Aside0 (impl_ParcelSplit.j0 kq l0 a1 a2 x28_3 = some (r1, r2, r3)) ∧ Aside0 (kq ≤ k) ∧ Aside0 (Below w.heap.size w wc))
 case first =>
  have H := HC4.out
  clear HC4
  replace H := Option.bind_eq_some_iff.mp H
  obtain ⟨t649, A50, H⟩ := H
  replace H : (if t649 = true then (if a1 < 0 then (impl_ParcelSplit.j0 k l0 a1 a2 true) else (if a1 ≥ a2 then (impl_ParcelSplit.j0 k l0 a1 a2 true) else (impl_ParcelSplit.j0 k l0 a1 a2 (decide (a2 ≥ (l0.length : Int)))))) else (impl_ParcelSplit.j0 k l0 a1 a2 true)) = some (r1, r2, r3) := H
  have A5 := Aside0.mk A50
  clear A50
  by_cases c6 : t649 = true
  ·subst c6
   have H1 : (if a1 < 0 then (impl_ParcelSplit.j0 k l0 a1 a2 true) else (if a1 ≥ a2 then (impl_ParcelSplit.j0 k l0 a1 a2 true) else (impl_ParcelSplit.j0 k l0 a1 a2 (decide (a2 ≥ (l0.length : Int)))))) = some (r1, r2, r3) := by rw [if_pos rfl] at H; exact H
   clear H
   have H := H1
   clear H1
   by_cases c7 : a1 < 0
   ·rw [if_pos c7] at H
    have c7b0 : decide (a1 < 0) = true := decide_eq_true c7
    clear c7
    (first | rw [c7b0] | (simp only [i64_w, i32_w]; rw [c7b0]) | skip)
    have H' := Aside0.mk H
    clear H
    go_wp2_with (first | ((with_reducible refine gate_callee (f := 21) rfl ?_); refine goesL_ (some 12) rfl rfl Try.func21 (by kernel_rfl) rfl #[.slice A0 l0.length c0] rfl qq3 ?_; (with_reducible refine (impl_ParcelValid.calls _ _ l0 true _ ?side1 ?side2 A5.out).mono ?_); (case side1 => exact qq83); (case side2 => exact HC0.out); rintro e w8 ⟨rfl, hb⟩; refine ⟨_, rfl, ?_⟩; have n0_ := Aside0.mk (below_step qq1 hb); clear HB; have HB := n0_; clear n0_; (try clear hb); (try clear hb2); (try clear hk); (try clear hi)))
    go_meet
    case rel => exact ⟨_, (true), qq25, H', ⟨qq40⟩, ⟨qq1⟩⟩
   ·rw [if_neg c7] at H
    have c7b0 : decide (a1 < 0) = false := decide_eq_false c7
    clear c7
    (first | rw [c7b0] | (simp only [i64_w, i32_w]; rw [c7b0]) | skip)
    by_cases c9 : a1 ≥ a2
    ·rw [if_pos c9] at H
     have c9b0 : decide (a2 ≤ a1) = true := decide_eq_true c9
     clear c9
     have H' := Aside0.mk H
     clear H
     go_wp2_with (first | ((with_reducible refine gate_callee (f := 21) rfl ?_); refine goesL_ (some 12) rfl rfl Try.func21 (by kernel_rfl) rfl #[.slice A0 l0.length c0] rfl qq3 ?_; (with_reducible refine (impl_ParcelValid.calls _ _ l0 true _ ?side1 ?side2 A5.out).mono ?_); (case side1 => exact qq83); (case side2 => exact HC0.out); rintro e w10 ⟨rfl, hb⟩; refine ⟨_, rfl, ?_⟩; have n0_ := Aside0.mk (below_step qq1 hb); clear HB; have HB := n0_; clear n0_; (try clear hb); (try clear hb2); (try clear hk); (try clear hi)))
     go_meet
     case rel => exact ⟨_, (true), qq25, H', ⟨qq40⟩, ⟨qq1⟩⟩
    ·rw [if_neg c9] at H
     have c9b0 : decide (a2 ≤ a1) = false := decide_eq_false c9
     clear c9
     have H' := Aside0.mk H
     clear H
     go_wp2_with (first | ((with_reducible refine gate_callee (f := 21) rfl ?_); refine goesL_ (some 12) rfl rfl Try.func21 (by kernel_rfl) rfl #[.slice A0 l0.length c0] rfl qq3 ?_; (with_reducible refine (impl_ParcelValid.calls _ _ l0 true _ ?side1 ?side2 A5.out).mono ?_); (case side1 => exact qq83); (case side2 => exact HC0.out); rintro e w11 ⟨rfl, hb⟩; refine ⟨_, rfl, ?_⟩; have n0_ := Aside0.mk (below_step qq1 hb); clear HB; have HB := n0_; clear n0_; (try clear hb); (try clear hb2); (try clear hk); (try clear hi)))
     go_meet
     case rel => exact ⟨_, (decide (a2 ≥ (l0.length : Int))), qq25, H', ⟨qq40⟩, ⟨qq1⟩⟩
  ·replace c6 := Bool.eq_false_iff.mpr c6
   subst c6
   have H1 : (impl_ParcelSplit.j0 k l0 a1 a2 true) = some (r1, r2, r3) := by rw [if_neg (show ¬ (false = true) by decide)] at H; exact H
   clear H
   have H := H1
   clear H1
   have H' := Aside0.mk H
   clear H
   go_wp2_with (first | ((with_reducible refine gate_callee (f := 21) rfl ?_); refine goesL_ (some 12) rfl rfl Try.func21 (by kernel_rfl) rfl #[.slice A0 l0.length c0] rfl qq3 ?_; (with_reducible refine (impl_ParcelValid.calls _ _ l0 false _ ?side1 ?side2 A5.out).mono ?_); (case side1 => exact qq83); (case side2 => exact HC0.out); rintro e w12 ⟨rfl, hb⟩; refine ⟨_, rfl, ?_⟩; have n0_ := Aside0.mk (below_step qq1 hb); clear HB; have HB := n0_; clear n0_; (try clear hb); (try clear hb2); (try clear hk); (try clear hi)))
   go_meet
   case rel => exact ⟨_, (true), qq25, H', ⟨qq40⟩, ⟨qq1⟩⟩
 case rest =>
  clear HC4
  try clear c2
  try clear p2
  try clear c3
  try clear c6
  try clear c7
  try clear c7b0
  try clear c9
  try clear c9b0
  obtain ⟨kq, x28_3, rfl, HA, HJ3, HB⟩ := hcut
  cases kq with
  | zero => exact absurd HA.out (by simp [impl_ParcelSplit.j0])
  | succ kj3 =>
   have H := HA.out
   clear HA
   simp only [impl_ParcelSplit.j0] at H
   by_cases c13 : x28_3 = true
   ·subst c13
    have H1 : (some ((([] : List (S32))), (([] : List (S32))), false)) = some (r1, r2, r3) := by rw [if_pos rfl] at H; exact H
    clear H
    have H := H1
    clear H1
    obtain ⟨y650, hy650⟩ : ∃ y_ : List (S32), y_ = (([] : List (S32))) := ⟨_, rfl⟩
    replace H : (some (y650, (([] : List (S32))), false)) = some (r1, r2, r3) := by first | (rw [hy650]; with_reducible exact H) | (have H2_ := (Option.bind_some _ _).symm.trans H; rw [hy650]; with_reducible exact H2_) | (have H2_ := (Option.bind_some _ _).symm.trans H; with_reducible exact H2_) | with_reducible exact H | (rw [hy650]; exact H) | exact H
    have Ny650 := Aside0.mk hy650
    clear hy650
    obtain ⟨y653, hy653⟩ : ∃ y_ : List (S32), y_ = (([] : List (S32))) := ⟨_, rfl⟩
    replace H : (some (y650, y653, false)) = some (r1, r2, r3) := by first | (rw [hy653]; with_reducible exact H) | (have H2_ := (Option.bind_some _ _).symm.trans H; rw [hy653]; with_reducible exact H2_) | (have H2_ := (Option.bind_some _ _).symm.trans H; with_reducible exact H2_) | with_reducible exact H | (rw [hy653]; exact H) | exact H
    have Ny653 := Aside0.mk hy653
    clear hy653
    simp only [Option.some.injEq, Prod.mk.injEq] at H
    obtain ⟨rfl, rfl, rfl⟩ := H
    go_wp2_with (first | ((with_reducible refine gate_dst (N := 29) rfl ?_); (try (refine gate_guard (by rfl) ?_; dsimp only)); refine Kd.R_lit k32 _ 32 ?hg (N := 29) ?hd (xs := ([] : List (S32))) (inner := []) (ok := fun _ => True) (okp := fun _ => True) ?hr ?hp (fun _ hk => hk) trivial (Below.refl _ _) (Nat.le_refl _) (by simp) ?_; (case hd => rfl); (case hg => rfl); (case hr => exact qq22); (case hp => exact (Reps.none _ _)); intro v651 w14 ho15 hb hg_ hnew_; clear hg_ hnew_; (first | rw [← Ny650.out] at ho15 | (simp only [Int.reduceToNat] at ho15; rw [← Ny650.out] at ho15)); have n0_ := Aside0.mk (Kd.R_lower ho15 (below_size qq1)); have n1_ := Aside0.mk (below_step qq1 hb); clear HB; have HO652 := n0_; have HB := n1_; clear n0_ n1_; clear hb ho15) | ((with_reducible refine gate_dst (N := 30) rfl ?_); (try (refine gate_guard (by rfl) ?_; dsimp only)); refine Kd.R_lit k32 _ 32 ?hg (N := 30) ?hd (xs := ([] : List (S32))) (inner := []) (ok := fun _ => True) (okp := fun _ => True) ?hr ?hp (fun _ hk => hk) trivial (Below.refl _ _) (Nat.le_refl _) (by simp) ?_; (case hd => rfl); (case hg => rfl); (case hr => exact qq22); (case hp => exact (Reps.none _ _)); intro v654 w16 ho17 hb hg_ hnew_; clear hg_ hnew_; (first | rw [← Ny653.out] at ho17 | (simp only [Int.reduceToNat] at ho17; rw [← Ny653.out] at ho17)); have n0_ := Aside0.mk (Kd.R_elder' (qq2 HO652.out) (Kd.R_base ho17) hb); have n1_ := Aside0.mk (Kd.R_lower (Kd.R_new' ho17 (Kd.R_lt (qq2 HO652.out))) (below_size qq1)); have n2_ := Aside0.mk (below_step qq1 hb); clear HO652; clear HB; have HO652 := n0_; have HO655 := n1_; have HB := n2_; clear n0_ n1_ n2_; clear hb ho17))
    go_ret3
    exact ⟨_, _, qq10, qq18 HO652.out, qq18 HO655.out, qq1⟩
   ·replace c13 := Bool.eq_false_iff.mpr c13
    subst c13
    have H1 : ((some (([] : List (S32)) : List (S32))).bind fun y656 => (if 0 ≤ a1 then (if a1 ≤ (wrap64 (a2 + 1)) then (if (wrap64 (a2 + 1)) ≤ (l0.length : Int) then ((some ((l0.take ((wrap64 (a2 + 1)) : Int).toNat).drop (a1 : Int).toNat : List (S32))).bind fun y659 => (if y656.length + y659.length < 8796093022208 then ((some (y656 ++ y659 : List (S32))).bind fun y663 => ((some (([] : List (S32)) : List (S32))).bind fun y666 => (if 0 ≤ a2 then (if a2 ≤ (l0.length : Int) then ((some (l0.drop (a2 : Int).toNat : List (S32))).bind fun y669 => (if y666.length + y669.length < 8796093022208 then ((some (y666 ++ y669 : List (S32))).bind fun y673 => (if 0 ≤ (wrap64 (a1 + 1)) then (if (wrap64 (a1 + 1)) ≤ (l0.length : Int) then ((some (l0.take ((wrap64 (a1 + 1)) : Int).toNat : List (S32))).bind fun y676 => (if y673.length + y676.length < 8796093022208 then ((some (y673 ++ y676 : List (S32))).bind fun y680 => ((impl_ParcelValid.f y663).bind fun t683 => (if t683 = true then ((impl_ParcelValid.f y680).bind fun t684 => (if t684 = true then (some (y663, y680, true)) else (some ((([] : List (S32))), (([] : List (S32))), false)))) else (some ((([] : List (S32))), (([] : List (S32))), false))))) else (none))) else (none)) else (none))) else (none))) else (none)) else (none)))) else (none))) else (none)) else (none)) else (none))) = some (r1, r2, r3) := by rw [if_neg (show ¬ (false = true) by decide)] at H; exact H
    clear H
    have H := H1
    clear H1
    obtain ⟨y656, hy656⟩ : ∃ y_ : List (S32), y_ = (([] : List (S32))) := ⟨_, rfl⟩
    replace H : (if 0 ≤ a1 then (if a1 ≤ (wrap64 (a2 + 1)) then (if (wrap64 (a2 + 1)) ≤ (l0.length : Int) then ((some ((l0.take ((wrap64 (a2 + 1)) : Int).toNat).drop (a1 : Int).toNat : List (S32))).bind fun y659 => (if y656.length + y659.length < 8796093022208 then ((some (y656 ++ y659 : List (S32))).bind fun y663 => ((some (([] : List (S32)) : List (S32))).bind fun y666 => (if 0 ≤ a2 then (if a2 ≤ (l0.length : Int) then ((some (l0.drop (a2 : Int).toNat : List (S32))).bind fun y669 => (if y666.length + y669.length < 8796093022208 then ((some (y666 ++ y669 : List (S32))).bind fun y673 => (if 0 ≤ (wrap64 (a1 + 1)) then (if (wrap64 (a1 + 1)) ≤ (l0.length : Int) then ((some (l0.take ((wrap64 (a1 + 1)) : Int).toNat : List (S32))).bind fun y676 => (if y673.length + y676.length < 8796093022208 then ((some (y673 ++ y676 : List (S32))).bind fun y680 => ((impl_ParcelValid.f y663).bind fun t683 => (if t683 = true then ((impl_ParcelValid.f y680).bind fun t684 => (if t684 = true then (some (y663, y680, true)) else (some ((([] : List (S32))), (([] : List (S32))), false)))) else (some ((([] : List (S32))), (([] : List (S32))), false))))) else (none))) else (none)) else (none))) else (none))) else (none)) else (none)))) else (none))) else (none)) else (none)) else (none)) = some (r1, r2, r3) := by first | (rw [hy656]; with_reducible exact H) | (have H2_ := (Option.bind_some _ _).symm.trans H; rw [hy656]; with_reducible exact H2_) | (have H2_ := (Option.bind_some _ _).symm.trans H; with_reducible exact H2_) | with_reducible exact H | (rw [hy656]; exact H) | exact H
    have Ny656 := Aside0.mk hy656
    clear hy656
    by_cases c18 : 0 ≤ a1
    ·rw [if_pos c18] at H
     have c18b0 := eq_true c18
     have c18b1 : decide (0 ≤ a1) = true := decide_eq_true c18
     clear c18
     by_cases c19 : a1 ≤ (wrap64 (a2 + 1))
     ·rw [if_pos c19] at H
      have c19b0 := eq_true c19
      have c19b1 : decide (a1 ≤ (wrap64 (a2 + 1))) = true := decide_eq_true c19
      by_cases c20 : (wrap64 (a2 + 1)) ≤ (l0.length : Int)
      ·rw [if_pos c20] at H
       have c20b0 := eq_true c20
       have c20b1 : decide ((wrap64 (a2 + 1)) ≤ (l0.length : Int)) = true := decide_eq_true c20
       obtain ⟨y659, hy659⟩ : ∃ y_ : List (S32), y_ = ((l0.take ((wrap64 (a2 + 1)) : Int).toNat).drop (a1 : Int).toNat) := ⟨_, rfl⟩
       replace H : (if y656.length + y659.length < 8796093022208 then ((some (y656 ++ y659 : List (S32))).bind fun y663 => ((some (([] : List (S32)) : List (S32))).bind fun y666 => (if 0 ≤ a2 then (if a2 ≤ (l0.length : Int) then ((some (l0.drop (a2 : Int).toNat : List (S32))).bind fun y669 => (if y666.length + y669.length < 8796093022208 then ((some (y666 ++ y669 : List (S32))).bind fun y673 => (if 0 ≤ (wrap64 (a1 + 1)) then (if (wrap64 (a1 + 1)) ≤ (l0.length : Int) then ((some (l0.take ((wrap64 (a1 + 1)) : Int).toNat : List (S32))).bind fun y676 => (if y673.length + y676.length < 8796093022208 then ((some (y673 ++ y676 : List (S32))).bind fun y680 => ((impl_ParcelValid.f y663).bind fun t683 => (if t683 = true then ((impl_ParcelValid.f y680).bind fun t684 => (if t684 = true then (some (y663, y680, true)) else (some ((([] : List (S32))), (([] : List (S32))), false)))) else (some ((([] : List (S32))), (([] : List (S32))), false))))) else (none))) else (none)) else (none))) else (none))) else (none)) else (none)))) else (none)) = some (r1, r2, r3) := by first | (rw [hy659]; with_reducible exact H) | (have H2_ := (Option.bind_some _ _).symm.trans H; rw [hy659]; with_reducible exact H2_) | (have H2_ := (Option.bind_some _ _).symm.trans H; with_reducible exact H2_) | with_reducible exact H | (rw [hy659]; exact H) | exact H
       have Ny659 := Aside0.mk hy659
       clear hy659
       by_cases c21 : y656.length + y659.length < 8796093022208
       ·rw [if_pos c21] at H
        have LMc21 := Aside0.mk c21
        clear c21
        obtain ⟨y663, hy663⟩ : ∃ y_ : List (S32), y_ = (y656 ++ y659) := ⟨_, rfl⟩
        replace H : ((some (([] : List (S32)) : List (S32))).bind fun y666 => (if 0 ≤ a2 then (if a2 ≤ (l0.length : Int) then ((some (l0.drop (a2 : Int).toNat : List (S32))).bind fun y669 => (if y666.length + y669.length < 8796093022208 then ((some (y666 ++ y669 : List (S32))).bind fun y673 => (if 0 ≤ (wrap64 (a1 + 1)) then (if (wrap64 (a1 + 1)) ≤ (l0.length : Int) then ((some (l0.take ((wrap64 (a1 + 1)) : Int).toNat : List (S32))).bind fun y676 => (if y673.length + y676.length < 8796093022208 then ((some (y673 ++ y676 : List (S32))).bind fun y680 => ((impl_ParcelValid.f y663).bind fun t683 => (if t683 = true then ((impl_ParcelValid.f y680).bind fun t684 => (if t684 = true then (some (y663, y680, true)) else (some ((([] : List (S32))), (([] : List (S32))), false)))) else (some ((([] : List (S32))), (([] : List (S32))), false))))) else (none))) else (none)) else (none))) else (none))) else (none)) else (none))) = some (r1, r2, r3) := by first | (rw [hy663]; with_reducible exact H) | (have H2_ := (Option.bind_some _ _).symm.trans H; rw [hy663]; with_reducible exact H2_) | (have H2_ := (Option.bind_some _ _).symm.trans H; with_reducible exact H2_) | with_reducible exact H | (rw [hy663]; exact H) | exact H
        have Ny663 := Aside0.mk hy663
        clear hy663
        obtain ⟨y666, hy666⟩ : ∃ y_ : List (S32), y_ = (([] : List (S32))) := ⟨_, rfl⟩
        replace H : (if 0 ≤ a2 then (if a2 ≤ (l0.length : Int) then ((some (l0.drop (a2 : Int).toNat : List (S32))).bind fun y669 => (if y666.length + y669.length < 8796093022208 then ((some (y666 ++ y669 : List (S32))).bind fun y673 => (if 0 ≤ (wrap64 (a1 + 1)) then (if (wrap64 (a1 + 1)) ≤ (l0.length : Int) then ((some (l0.take ((wrap64 (a1 + 1)) : Int).toNat : List (S32))).bind fun y676 => (if y673.length + y676.length < 8796093022208 then ((some (y673 ++ y676 : List (S32))).bind fun y680 => ((impl_ParcelValid.f y663).bind fun t683 => (if t683 = true then ((impl_ParcelValid.f y680).bind fun t684 => (if t684 = true then (some (y663, y680, true)) else (some ((([] : List (S32))), (([] : List (S32))), false)))) else (some ((([] : List (S32))), (([] : List (S32))), false))))) else (none))) else (none)) else (none))) else (none))) else (none)) else (none)) = some (r1, r2, r3) := by first | (rw [hy666]; with_reducible exact H) | (have H2_ := (Option.bind_some _ _).symm.trans H; rw [hy666]; with_reducible exact H2_) | (have H2_ := (Option.bind_some _ _).symm.trans H; with_reducible exact H2_) | with_reducible exact H | (rw [hy666]; exact H) | exact H
        have Ny666 := Aside0.mk hy666
        clear hy666
        by_cases c22 : 0 ≤ a2
        ·rw [if_pos c22] at H
         have c22b0 := eq_true c22
         have c22b1 : decide (0 ≤ a2) = true := decide_eq_true c22
         clear c22
         by_cases c23 : a2 ≤ (l0.length : Int)
         ·rw [if_pos c23] at H
          have c23b0 := eq_true c23
          have c23b1 : decide (a2 ≤ (l0.length : Int)) = true := decide_eq_true c23
          clear c23
          obtain ⟨y669, hy669⟩ : ∃ y_ : List (S32), y_ = (l0.drop (a2 : Int).toNat) := ⟨_, rfl⟩
          replace H : (if y666.length + y669.length < 8796093022208 then ((some (y666 ++ y669 : List (S32))).bind fun y673 => (if 0 ≤ (wrap64 (a1 + 1)) then (if (wrap64 (a1 + 1)) ≤ (l0.length : Int) then ((some (l0.take ((wrap64 (a1 + 1)) : Int).toNat : List (S32))).bind fun y676 => (if y673.length + y676.length < 8796093022208 then ((some (y673 ++ y676 : List (S32))).bind fun y680 => ((impl_ParcelValid.f y663).bind fun t683 => (if t683 = true then ((impl_ParcelValid.f y680).bind fun t684 => (if t684 = true then (some (y663, y680, true)) else (some ((([] : List (S32))), (([] : List (S32))), false)))) else (some ((([] : List (S32))), (([] : List (S32))), false))))) else (none))) else (none)) else (none))) else (none)) = some (r1, r2, r3) := by first | (rw [hy669]; with_reducible exact H) | (have H2_ := (Option.bind_some _ _).symm.trans H; rw [hy669]; with_reducible exact H2_) | (have H2_ := (Option.bind_some _ _).symm.trans H; with_reducible exact H2_) | with_reducible exact H | (rw [hy669]; exact H) | exact H
          have Ny669 := Aside0.mk hy669
          clear hy669
          by_cases c24 : y666.length + y669.length < 8796093022208
          ·rw [if_pos c24] at H
           have LMc24 := Aside0.mk c24
           clear c24
           obtain ⟨y673, hy673⟩ : ∃ y_ : List (S32), y_ = (y666 ++ y669) := ⟨_, rfl⟩
           replace H : (if 0 ≤ (wrap64 (a1 + 1)) then (if (wrap64 (a1 + 1)) ≤ (l0.length : Int) then ((some (l0.take ((wrap64 (a1 + 1)) : Int).toNat : List (S32))).bind fun y676 => (if y673.length + y676.length < 8796093022208 then ((some (y673 ++ y676 : List (S32))).bind fun y680 => ((impl_ParcelValid.f y663).bind fun t683 => (if t683 = true then ((impl_ParcelValid.f y680).bind fun t684 => (if t684 = true then (some (y663, y680, true)) else (some ((([] : List (S32))), (([] : List (S32))), false)))) else (some ((([] : List (S32))), (([] : List (S32))), false))))) else (none))) else (none)) else (none)) = some (r1, r2, r3) := by first | (rw [hy673]; with_reducible exact H) | (have H2_ := (Option.bind_some _ _).symm.trans H; rw [hy673]; with_reducible exact H2_) | (have H2_ := (Option.bind_some _ _).symm.trans H; with_reducible exact H2_) | with_reducible exact H | (rw [hy673]; exact H) | exact H
           have Ny673 := Aside0.mk hy673
           clear hy673
           obtain ⟨ji25, hji25⟩ : ∃ j_ : Int, (wrap64 (a1 + 1)) = j_ := ⟨_, rfl⟩
           replace H : (if 0 ≤ (ji25) then (if (ji25) ≤ (l0.length : Int) then ((some (l0.take ((ji25) : Int).toNat : List (S32))).bind fun y676 => (if y673.length + y676.length < 8796093022208 then ((some (y673 ++ y676 : List (S32))).bind fun y680 => ((impl_ParcelValid.f y663).bind fun t683 => (if t683 = true then ((impl_ParcelValid.f y680).bind fun t684 => (if t684 = true then (some (y663, y680, true)) else (some ((([] : List (S32))), (([] : List (S32))), false)))) else (some ((([] : List (S32))), (([] : List (S32))), false))))) else (none))) else (none)) else (none)) = some (r1, r2, r3) := by first | (rw [hji25] at H; exact H) | (simp only [hji25] at H ⊢; exact H)
           have hji25w : (IntKind.i64.wrap (a1 + 1)) = ji25 := (i64_w _).trans hji25
           by_cases c26 : 0 ≤ (ji25)
           ·rw [if_pos c26] at H
            have c26b0 := eq_true c26
            have c26b1 : decide (0 ≤ (ji25)) = true := decide_eq_true c26
            clear c26
            by_cases c27 : (ji25) ≤ (l0.length : Int)
            ·rw [if_pos c27] at H
             have c27b0 := eq_true c27
             have c27b1 : decide ((ji25) ≤ (l0.length : Int)) = true := decide_eq_true c27
             clear c27
             obtain ⟨y676, hy676⟩ : ∃ y_ : List (S32), y_ = (l0.take ((ji25) : Int).toNat) := ⟨_, rfl⟩
             replace H : (if y673.length + y676.length < 8796093022208 then ((some (y673 ++ y676 : List (S32))).bind fun y680 => ((impl_ParcelValid.f y663).bind fun t683 => (if t683 = true then ((impl_ParcelValid.f y680).bind fun t684 => (if t684 = true then (some (y663, y680, true)) else (some ((([] : List (S32))), (([] : List (S32))), false)))) else (some ((([] : List (S32))), (([] : List (S32))), false))))) else (none)) = some (r1, r2, r3) := by first | (rw [hy676]; with_reducible exact H) | (have H2_ := (Option.bind_some _ _).symm.trans H; rw [hy676]; with_reducible exact H2_) | (have H2_ := (Option.bind_some _ _).symm.trans H; with_reducible exact H2_) | with_reducible exact H | (rw [hy676]; exact H) | exact H
             have Ny676 := Aside0.mk hy676
             clear hy676
             by_cases c28 : y673.length + y676.length < 8796093022208
             ·rw [if_pos c28] at H
              have LMc28 := Aside0.mk c28
              clear c28
              obtain ⟨y680, hy680⟩ : ∃ y_ : List (S32), y_ = (y673 ++ y676) := ⟨_, rfl⟩
              replace H : ((impl_ParcelValid.f y663).bind fun t683 => (if t683 = true then ((impl_ParcelValid.f y680).bind fun t684 => (if t684 = true then (some (y663, y680, true)) else (some ((([] : List (S32))), (([] : List (S32))), false)))) else (some ((([] : List (S32))), (([] : List (S32))), false)))) = some (r1, r2, r3) := by first | (rw [hy680]; with_reducible exact H) | (have H2_ := (Option.bind_some _ _).symm.trans H; rw [hy680]; with_reducible exact H2_) | (have H2_ := (Option.bind_some _ _).symm.trans H; with_reducible exact H2_) | with_reducible exact H | (rw [hy680]; exact H) | exact H
              have Ny680 := Aside0.mk hy680
              clear hy680
              replace H := Option.bind_eq_some_iff.mp H
              obtain ⟨t683, A290, H⟩ := H
              replace H : (if t683 = true then ((impl_ParcelValid.f y680).bind fun t684 => (if t684 = true then (some (y663, y680, true)) else (some ((([] : List (S32))), (([] : List (S32))), false)))) else (some ((([] : List (S32))), (([] : List (S32))), false))) = some (r1, r2, r3) := H
              have A29 := Aside0.mk A290
              clear A290
              by_cases c30 : t683 = true
              ·subst c30
               have H1 : ((impl_ParcelValid.f y680).bind fun t684 => (if t684 = true then (some (y663, y680, true)) else (some ((([] : List (S32))), (([] : List (S32))), false)))) = some (r1, r2, r3) := by rw [if_pos rfl] at H; exact H
               clear H
               have H := H1
               clear H1
               replace H := Option.bind_eq_some_iff.mp H
               obtain ⟨t684, A310, H⟩ := H
               replace H : (if t684 = true then (some (y663, y680, true)) else (some ((([] : List (S32))), (([] : List (S32))), false))) = some (r1, r2, r3) := H
               have A31 := Aside0.mk A310
               clear A310
               by_cases c32 : t684 = true
               ·subst c32
                have H1 : (some (y663, y680, true)) = some (r1, r2, r3) := by rw [if_pos rfl] at H; exact H
                clear H
                have H := H1
                clear H1
                simp only [Option.some.injEq, Prod.mk.injEq] at H
                obtain ⟨rfl, rfl, rfl⟩ := H
                go_wp2_with (first | ((with_reducible refine gate_dst (N := 31) rfl ?_); (try (refine gate_guard (by rfl) ?_; dsimp only)); refine Kd.R_lit k32 _ 32 ?hg (N := 31) ?hd (xs := ([] : List (S32))) (inner := []) (ok := fun _ => True) (okp := fun _ => True) ?hr ?hp (fun _ hk => hk) trivial (Below.refl _ _) (Nat.le_refl _) (by simp) ?_; (case hd => rfl); (case hg => rfl); (case hr => exact qq22); (case hp => exact (Reps.none _ _)); intro v657 w33 ho34 hb hg_ hnew_; clear hg_ hnew_; (first | rw [← Ny656.out] at ho34 | (simp only [Int.reduceToNat] at ho34; rw [← Ny656.out] at ho34)); have n0_ := Aside0.mk (Kd.R_lower ho34 (below_size qq1)); have n1_ := Aside0.mk (below_step qq1 hb); clear HB; have HO658 := n0_; have HB := n1_; clear n0_ n1_; clear hb ho34; have q35 : ((wrap64 (a2 + 1)) : Int) ≤ ((l0.length : Int) : Int) := of_decide_eq_true qq14; obtain ⟨i035, hi035, _, hsz35, _⟩ := info_parts info32; have hroom35 : l0.length ≤ c0 := HC0.out; have hC35 : Kd.C k32 _ A0 l0.length l0 := HR0.out; have ql35 : (a1 : Int) ≤ ((wrap64 (a2 + 1)) : Int) := of_decide_eq_true qq14; have q035 : (0 : Int) ≤ (a1 : Int) := of_decide_eq_true qq14; have hcut35 := cut_mid (P := Try.prog) 23 32 .i64 .i64 Try.underlying23 hi035 2 hsz35 A0 l0.length c0 a1 (wrap64 (a2 + 1)) q035 ql35 q35 hroom35; have hr35 := Kd.C_mid (lo := (a1 : Int).toNat) (hi := ((wrap64 (a2 + 1)) : Int).toNat) (c := c0) hC35 (by omega) (by omega) hroom35; obtain ⟨A35, hA35⟩ : ∃ Az_, Az_ = (if c0 = (a1 : Int).toNat then A0 else (A0 : Option Addr).map (·.add ((a1 : Int).toNat * 2))) := ⟨_, rfl⟩; obtain ⟨c35, hc35⟩ : ∃ cz_, cz_ = c0 - (a1 : Int).toNat := ⟨_, rfl⟩; have hy35 : y659.length = ((wrap64 (a2 + 1)) : Int).toNat - (a1 : Int).toNat := (qq69 Ny659.out); rw [show ((l0).take ((wrap64 (a2 + 1)) : Int).toNat).drop (a1 : Int).toNat = y659 from Ny659.out.symm] at hr35; replace hr35 : Kd.C k32 _ A35 y659.length y659 := (by rw [hA35]; exact hr35); rw [← hy35, ← hA35, ← hc35] at hcut35; have HR662 := Aside0.mk hr35; have HC662 := Aside0.mk (show y659.length ≤ c35 from by rw [hy35, hc35]; exact Nat.sub_le_sub_right (Nat.le_trans (by omega) hroom35) _); clear hr35 hC35 hroom35 hi035 hsz35 hc35; have KY35 := Aside0.mk hy35; have KA35 := Aside0.mk hA35; clear hy35 hA35; replace q35 := eq_true q35) | ((with_reducible refine gate_builtin (b := .append) (xs := #[.tmp 31, .tmp 36]) rfl ?_); (try (refine gate_guard (by rfl) ?_; dsimp only)); at_builtin; refine Kd.R_append_rows k32 (w0 := w) w.heap.size rfl (.tmp 31) (.tmp 36) 23 32 (.agg #[(.int .i64 0), (.int .i64 0)]) 16 rfl Try.underlying23 info32 rfl (by decide) (by omega) v657 y656 y659 _ _ _ (fun _ => True) (fun _ => False) rfl rfl ?aO ?aR (fun _ _ h => h) (fun _ h => h.elim) ?aF ?aB ?aS ?aL ?_; (case aR => exact qq15 HR662.out HB.out); (case aB => exact qq1); (case aF => exact qq87); (case aO => exact (qq2 HO658.out)); (case aS => exact (below_size qq1)); (case aL => have := LMc21.out; omega); intro v664 w36 ho hb hg hat; rw [← Ny663.out] at ho; have n0_ := Aside0.mk (hb); have n1_ := Aside0.mk (ho); clear HB; clear HO658; have HB := n0_; have HO665 := n1_; clear n0_ n1_; clear ho hb hg hat) | ((with_reducible refine gate_dst (N := 38) rfl ?_); (try (refine gate_guard (by rfl) ?_; dsimp only)); refine Kd.R_lit k32 _ 32 ?hg (N := 38) ?hd (xs := ([] : List (S32))) (inner := []) (ok := fun _ => True) (okp := fun _ => True) ?hr ?hp (fun _ hk => hk) trivial (Below.refl _ _) (Nat.le_refl _) (by simp) ?_; (case hd => rfl); (case hg => rfl); (case hr => exact qq22); (case hp => exact (Reps.none _ _)); intro v667 w37 ho38 hb hg_ hnew_; clear hg_ hnew_; (first | rw [← Ny666.out] at ho38 | (simp only [Int.reduceToNat] at ho38; rw [← Ny666.out] at ho38)); have n0_ := Aside0.mk (Kd.R_elder' (qq2 HO665.out) (Kd.R_base ho38) hb); have n1_ := Aside0.mk (Kd.R_lower (Kd.R_new' ho38 (Kd.R_lt (qq2 HO665.out))) (below_size qq1)); have n2_ := Aside0.mk (below_step qq1 hb); clear HO665; clear HB; have HO665 := n0_; have HO668 := n1_; have HB := n2_; clear n0_ n1_ n2_; clear hb ho38; have q39 : (a2 : Int) ≤ ((l0.length : Int) : Int) := of_decide_eq_true qq14; obtain ⟨i039, hi039, _, hsz39, _⟩ := info_parts info32; have hroom39 : l0.length ≤ c0 := HC0.out; have hC39 : Kd.C k32 _ A0 l0.length l0 := HR0.out; have q039 : (0 : Int) ≤ (a2 : Int) := of_decide_eq_true qq14; have hcut39 := cut_from (P := Try.prog) 23 32 .i64 Try.underlying23 hi039 2 hsz39 A0 l0.length c0 a2 q039 q39; have hr39 := Kd.C_drop (m := (a2 : Int).toNat) (c := c0) hC39 (by omega) hroom39; obtain ⟨A39, hA39⟩ : ∃ Az_, Az_ = (if c0 = (a2 : Int).toNat then A0 else (A0 : Option Addr).map (·.add ((a2 : Int).toNat * 2))) := ⟨_, rfl⟩; obtain ⟨c39, hc39⟩ : ∃ cz_, cz_ = c0 - (a2 : Int).toNat := ⟨_, rfl⟩; have hy39 : y669.length = l0.length - (a2 : Int).toNat := (qq73 Ny669.out); rw [show (l0).drop (a2 : Int).toNat = y669 from Ny669.out.symm] at hr39; replace hr39 : Kd.C k32 _ A39 y669.length y669 := (by rw [hA39]; exact hr39); rw [← hy39, ← hA39, ← hc39] at hcut39; have HR672 := Aside0.mk hr39; have HC672 := Aside0.mk (show y669.length ≤ c39 from by rw [hy39, hc39]; exact Nat.sub_le_sub_right hroom39 _); clear hr39 hC39 hroom39 hi039 hsz39 hc39; have KY39 := Aside0.mk hy39; have KA39 := Aside0.mk hA39; clear hy39 hA39; replace q39 := eq_true q39) | ((with_reducible refine gate_builtin (b := .append) (xs := #[.tmp 38, .tmp 41]) rfl ?_); (try (refine gate_guard (by rfl) ?_; dsimp only)); at_builtin; refine Kd.R_append_rows k32 (w0 := w) w.heap.size rfl (.tmp 38) (.tmp 41) 23 32 (.agg #[(.int .i64 0), (.int .i64 0)]) 16 rfl Try.underlying23 info32 rfl (by decide) (by omega) v667 y666 y669 _ _ _ (fun k_ => some k_ ≠ (v664 : Value).ownBlock) (fun _ => False) rfl rfl ?aO ?aR (fun _ _ h => h) (fun _ h => h.elim) ?aF ?aB ?aS ?aL ?_; (case aR => exact qq15 HR672.out HB.out); (case aB => exact qq1); (case aF => exact qq47 HO665.out); (case aO => exact (qq18 HO668.out)); (case aS => exact (below_size qq1)); (case aL => have := LMc24.out; omega); intro v674 w40 ho hb hg hat; rw [← Ny673.out] at ho; have n0_ := Aside0.mk (Kd.R_after (ok := (fun _ => True)) (qq2 HO665.out) hg hat); have n1_ := Aside0.mk (hb); have n2_ := Aside0.mk (ho); clear HO665; clear HB; clear HO668; have HO665 := n0_; have HB := n1_; have HO675 := n2_; clear n0_ n1_ n2_; clear ho hb hg hat; have q41 : ((ji25) : Int) ≤ ((l0.length : Int) : Int) := of_decide_eq_true qq14; obtain ⟨i041, hi041, _, hsz41, _⟩ := info_parts info32; have hroom41 : l0.length ≤ c0 := HC0.out; have hC41 : Kd.C k32 _ A0 l0.length l0 := HR0.out; have hcut41 := cut_to (P := Try.prog) 23 32 .i64 Try.underlying23 hi041 A0 l0.length c0 (ji25) (of_decide_eq_true qq14) q41 hroom41; have hr41 := Kd.C_take (m := ((ji25) : Int).toNat) hC41 (by omega); have hy41 : y676.length = ((ji25) : Int).toNat := qq94; rw [← Ny676.out] at hr41; rw [← hy41] at hcut41; have HR679 := Aside0.mk hr41; have HC679 := Aside0.mk (show y676.length ≤ c0 from by omega); clear hr41 hC41 hroom41 hi041 hsz41; have KY41 := Aside0.mk hy41; clear hy41; replace q41 := eq_true q41) | ((with_reducible refine gate_builtin (b := .append) (xs := #[.tmp 43, .tmp 47]) rfl ?_); (try (refine gate_guard (by rfl) ?_; dsimp only)); at_builtin; refine Kd.R_append_rows k32 (w0 := w) w.heap.size rfl (.tmp 43) (.tmp 47) 23 32 (.agg #[(.int .i64 0), (.int .i64 0)]) 16 rfl Try.underlying23 info32 rfl (by decide) (by omega) v674 y673 y676 _ _ _ (fun k_ => some k_ ≠ (v664 : Value).ownBlock) (fun _ => False) rfl rfl ?aO ?aR (fun _ _ h => h) (fun _ h => h.elim) ?aF ?aB ?aS ?aL ?_; (case aR => exact qq15 HR679.out HB.out); (case aB => exact qq1); (case aF => exact qq47 HO665.out); (case aO => exact (qq2 HO675.out)); (case aS => exact (below_size qq1)); (case aL => have := LMc28.out; omega); intro v681 w42 ho hb hg hat; rw [← Ny680.out] at ho; have n0_ := Aside0.mk (Kd.R_after (ok := (fun _ => True)) (qq2 HO665.out) hg hat); have n1_ := Aside0.mk (hb); have n2_ := Aside0.mk (ho); clear HO665; clear HB; clear HO675; have HO665 := n0_; have HB := n1_; have HO682 := n2_; clear n0_ n1_ n2_; clear ho hb hg hat; obtain ⟨Ao43, co43, eo43⟩ := Kd.R_slice HO665.out; subst eo43) | ((with_reducible refine gate_callee (f := 21) rfl ?_); refine goesL_ (some 50) rfl rfl Try.func21 (by kernel_rfl) rfl #[.slice Ao43 y663.length co43] rfl qq3 ?_; (with_reducible refine (impl_ParcelValid.calls _ _ y663 true _ ?side1 ?side2 A29.out).mono ?_); (case side1 => exact qq11 HO665.out); (case side2 => exact qq62 HO665.out); rintro e w44 ⟨rfl, hb⟩; refine ⟨_, rfl, ?_⟩; have n0_ := Aside0.mk (Kd.R_below (qq2 HO665.out) hb); have n1_ := Aside0.mk (Kd.R_below (qq2 HO682.out) hb); have n2_ := Aside0.mk (below_step qq1 hb); clear HO665; clear HO682; clear HB; have HO665 := n0_; have HO682 := n1_; have HB := n2_; clear n0_ n1_ n2_; (try clear hb); (try clear hb2); (try clear hk); (try clear hi); obtain ⟨Ao45, co45, eo45⟩ := Kd.R_slice HO682.out; subst eo45) | (go_at_call 21; (with_reducible refine (impl_ParcelValid.calls _ _ y680 true _ ?side1 ?side2 A31.out).mono ?_); (case side1 => exact qq11 HO682.out); (case side2 => exact qq62 HO682.out); rintro e w46 ⟨rfl, hb⟩; have n0_ := Aside0.mk (Kd.R_below (qq2 HO665.out) hb); have n1_ := Aside0.mk (Kd.R_below (qq2 HO682.out) hb); have n2_ := Aside0.mk (below_step qq1 hb); clear HO665; clear HO682; clear HB; have HO665 := n0_; have HO682 := n1_; have HB := n2_; clear n0_ n1_ n2_; (try clear hb); (try clear hb2); (try clear hk); (try clear hi)))
                go_ret3
                exact ⟨_, _, qq39, qq18 HO665.out, qq2 HO682.out, qq1⟩
               ·replace c32 := Bool.eq_false_iff.mpr c32
                subst c32
                have H1 : (some ((([] : List (S32))), (([] : List (S32))), false)) = some (r1, r2, r3) := by rw [if_neg (show ¬ (false = true) by decide)] at H; exact H
                clear H
                have H := H1
                clear H1
                obtain ⟨y685, hy685⟩ : ∃ y_ : List (S32), y_ = (([] : List (S32))) := ⟨_, rfl⟩
                replace H : (some (y685, (([] : List (S32))), false)) = some (r1, r2, r3) := by first | (rw [hy685]; with_reducible exact H) | (have H2_ := (Option.bind_some _ _).symm.trans H; rw [hy685]; with_reducible exact H2_) | (have H2_ := (Option.bind_some _ _).symm.trans H; with_reducible exact H2_) | with_reducible exact H | (rw [hy685]; exact H) | exact H
                have Ny685 := Aside0.mk hy685
                clear hy685
                obtain ⟨y688, hy688⟩ : ∃ y_ : List (S32), y_ = (([] : List (S32))) := ⟨_, rfl⟩
                replace H : (some (y685, y688, false)) = some (r1, r2, r3) := by first | (rw [hy688]; with_reducible exact H) | (have H2_ := (Option.bind_some _ _).symm.trans H; rw [hy688]; with_reducible exact H2_) | (have H2_ := (Option.bind_some _ _).symm.trans H; with_reducible exact H2_) | with_reducible exact H | (rw [hy688]; exact H) | exact H
                have Ny688 := Aside0.mk hy688
                clear hy688
                simp only [Option.some.injEq, Prod.mk.injEq] at H
                obtain ⟨rfl, rfl, rfl⟩ := H
                go_wp2_with (first | ((with_reducible refine gate_dst (N := 31) rfl ?_); (try (refine gate_guard (by rfl) ?_; dsimp only)); refine Kd.R_lit k32 _ 32 ?hg (N := 31) ?hd (xs := ([] : List (S32))) (inner := []) (ok := fun _ => True) (okp := fun _ => True) ?hr ?hp (fun _ hk => hk) trivial (Below.refl _ _) (Nat.le_refl _) (by simp) ?_; (case hd => rfl); (case hg => rfl); (case hr => exact qq22); (case hp => exact (Reps.none _ _)); intro v657 w47 ho48 hb hg_ hnew_; clear hg_ hnew_; (first | rw [← Ny656.out] at ho48 | (simp only [Int.reduceToNat] at ho48; rw [← Ny656.out] at ho48)); have n0_ := Aside0.mk (Kd.R_lower ho48 (below_size qq1)); have n1_ := Aside0.mk (below_step qq1 hb); clear HB; have HO658 := n0_; have HB := n1_; clear n0_ n1_; clear hb ho48; have q49 : ((wrap64 (a2 + 1)) : Int) ≤ ((l0.length : Int) : Int) := of_decide_eq_true qq14; obtain ⟨i049, hi049, _, hsz49, _⟩ := info_parts info32; have hroom49 : l0.length ≤ c0 := HC0.out; have hC49 : Kd.C k32 _ A0 l0.length l0 := HR0.out; have ql49 : (a1 : Int) ≤ ((wrap64 (a2 + 1)) : Int) := of_decide_eq_true qq14; have q049 : (0 : Int) ≤ (a1 : Int) := of_decide_eq_true qq14; have hcut49 := cut_mid (P := Try.prog) 23 32 .i64 .i64 Try.underlying23 hi049 2 hsz49 A0 l0.length c0 a1 (wrap64 (a2 + 1)) q049 ql49 q49 hroom49; have hr49 := Kd.C_mid (lo := (a1 : Int).toNat) (hi := ((wrap64 (a2 + 1)) : Int).toNat) (c := c0) hC49 (by omega) (by omega) hroom49; obtain ⟨A49, hA49⟩ : ∃ Az_, Az_ = (if c0 = (a1 : Int).toNat then A0 else (A0 : Option Addr).map (·.add ((a1 : Int).toNat * 2))) := ⟨_, rfl⟩; obtain ⟨c49, hc49⟩ : ∃ cz_, cz_ = c0 - (a1 : Int).toNat := ⟨_, rfl⟩; have hy49 : y659.length = ((wrap64 (a2 + 1)) : Int).toNat - (a1 : Int).toNat := (qq69 Ny659.out); rw [show ((l0).take ((wrap64 (a2 + 1)) : Int).toNat).drop (a1 : Int).toNat = y659 from Ny659.out.symm] at hr49; replace hr49 : Kd.C k32 _ A49 y659.length y659 := (by rw [hA49]; exact hr49); rw [← hy49, ← hA49, ← hc49] at hcut49; have HR662 := Aside0.mk hr49; have HC662 := Aside0.mk (show y659.length ≤ c49 from by rw [hy49, hc49]; exact Nat.sub_le_sub_right (Nat.le_trans (by omega) hroom49) _); clear hr49 hC49 hroom49 hi049 hsz49 hc49; have KY49 := Aside0.mk hy49; have KA49 := Aside0.mk hA49; clear hy49 hA49; replace q49 := eq_true q49) | ((with_reducible refine gate_builtin (b := .append) (xs := #[.tmp 31, .tmp 36]) rfl ?_); (try (refine gate_guard (by rfl) ?_; dsimp only)); at_builtin; refine Kd.R_append_rows k32 (w0 := w) w.heap.size rfl (.tmp 31) (.tmp 36) 23 32 (.agg #[(.int .i64 0), (.int .i64 0)]) 16 rfl Try.underlying23 info32 rfl (by decide) (by omega) v657 y656 y659 _ _ _ (fun _ => True) (fun _ => False) rfl rfl ?aO ?aR (fun _ _ h => h) (fun _ h => h.elim) ?aF ?aB ?aS ?aL ?_; (case aR => exact qq15 HR662.out HB.out); (case aB => exact qq1); (case aF => exact qq87); (case aO => exact (qq2 HO658.out)); (case aS => exact (below_size qq1)); (case aL => have := LMc21.out; omega); intro v664 w50 ho hb hg hat; rw [← Ny663.out] at ho; have n0_ := Aside0.mk (hb); have n1_ := Aside0.mk (ho); clear HB; clear HO658; have HB := n0_; have HO665 := n1_; clear n0_ n1_; clear ho hb hg hat) | ((with_reducible refine gate_dst (N := 38) rfl ?_); (try (refine gate_guard (by rfl) ?_; dsimp only)); refine Kd.R_lit k32 _ 32 ?hg (N := 38) ?hd (xs := ([] : List (S32))) (inner := []) (ok := fun _ => True) (okp := fun _ => True) ?hr ?hp (fun _ hk => hk) trivial (Below.refl _ _) (Nat.le_refl _) (by simp) ?_; (case hd => rfl); (case hg => rfl); (case hr => exact qq22); (case hp => exact (Reps.none _ _)); intro v667 w51 ho52 hb hg_ hnew_; clear hg_ hnew_; (first | rw [← Ny666.out] at ho52 | (simp only [Int.reduceToNat] at ho52; rw [← Ny666.out] at ho52)); have n0_ := Aside0.mk (Kd.R_elder' (qq2 HO665.out) (Kd.R_base ho52) hb); have n1_ := Aside0.mk (Kd.R_lower (Kd.R_new' ho52 (Kd.R_lt (qq2 HO665.out))) (below_size qq1)); have n2_ := Aside0.mk (below_step qq1 hb); clear HO665; clear HB; have HO665 := n0_; have HO668 := n1_; have HB := n2_; clear n0_ n1_ n2_; clear hb ho52; have q53 : (a2 : Int) ≤ ((l0.length : Int) : Int) := of_decide_eq_true qq14; obtain ⟨i053, hi053, _, hsz53, _⟩ := info_parts info32; have hroom53 : l0.length ≤ c0 := HC0.out; have hC53 : Kd.C k32 _ A0 l0.length l0 := HR0.out; have q053 : (0 : Int) ≤ (a2 : Int) := of_decide_eq_true qq14; have hcut53 := cut_from (P := Try.prog) 23 32 .i64 Try.underlying23 hi053 2 hsz53 A0 l0.length c0 a2 q053 q53; have hr53 := Kd.C_drop (m := (a2 : Int).toNat) (c := c0) hC53 (by omega) hroom53; obtain ⟨A53, hA53⟩ : ∃ Az_, Az_ = (if c0 = (a2 : Int).toNat then A0 else (A0 : Option Addr).map (·.add ((a2 : Int).toNat * 2))) := ⟨_, rfl⟩; obtain ⟨c53, hc53⟩ : ∃ cz_, cz_ = c0 - (a2 : Int).toNat := ⟨_, rfl⟩; have hy53 : y669.length = l0.length - (a2 : Int).toNat := (qq73 Ny669.out); rw [show (l0).drop (a2 : Int).toNat = y669 from Ny669.out.symm] at hr53; replace hr53 : Kd.C k32 _ A53 y669.length y669 := (by rw [hA53]; exact hr53); rw [← hy53, ← hA53, ← hc53] at hcut53; have HR672 := Aside0.mk hr53; have HC672 := Aside0.mk (show y669.length ≤ c53 from by rw [hy53, hc53]; exact Nat.sub_le_sub_right hroom53 _); clear hr53 hC53 hroom53 hi053 hsz53 hc53; have KY53 := Aside0.mk hy53; have KA53 := Aside0.mk hA53; clear hy53 hA53; replace q53 := eq_true q53) | ((with_reducible refine gate_builtin (b := .append) (xs := #[.tmp 38, .tmp 41]) rfl ?_); (try (refine gate_guard (by rfl) ?_; dsimp only)); at_builtin; refine Kd.R_append_rows k32 (w0 := w) w.heap.size rfl (.tmp 38) (.tmp 41) 23 32 (.agg #[(.int .i64 0), (.int .i64 0)]) 16 rfl Try.underlying23 info32 rfl (by decide) (by omega) v667 y666 y669 _ _ _ (fun k_ => some k_ ≠ (v664 : Value).ownBlock) (fun _ => False) rfl rfl ?aO ?aR (fun _ _ h => h) (fun _ h => h.elim) ?aF ?aB ?aS ?aL ?_; (case aR => exact qq15 HR672.out HB.out); (case aB => exact qq1); (case aF => exact qq47 HO665.out); (case aO => exact (qq18 HO668.out)); (case aS => exact (below_size qq1)); (case aL => have := LMc24.out; omega); intro v674 w54 ho hb hg hat; rw [← Ny673.out] at ho; have n0_ := Aside0.mk (Kd.R_after (ok := (fun _ => True)) (qq2 HO665.out) hg hat); have n1_ := Aside0.mk (hb); have n2_ := Aside0.mk (ho); clear HO665; clear HB; clear HO668; have HO665 := n0_; have HB := n1_; have HO675 := n2_; clear n0_ n1_ n2_; clear ho hb hg hat; have q55 : ((ji25) : Int) ≤ ((l0.length : Int) : Int) := of_decide_eq_true qq14; obtain ⟨i055, hi055, _, hsz55, _⟩ := info_parts info32; have hroom55 : l0.length ≤ c0 := HC0.out; have hC55 : Kd.C k32 _ A0 l0.length l0 := HR0.out; have hcut55 := cut_to (P := Try.prog) 23 32 .i64 Try.underlying23 hi055 A0 l0.length c0 (ji25) (of_decide_eq_true qq14) q55 hroom55; have hr55 := Kd.C_take (m := ((ji25) : Int).toNat) hC55 (by omega); have hy55 : y676.length = ((ji25) : Int).toNat := qq94; rw [← Ny676.out] at hr55; rw [← hy55] at hcut55; have HR679 := Aside0.mk hr55; have HC679 := Aside0.mk (show y676.length ≤ c0 from by omega); clear hr55 hC55 hroom55 hi055 hsz55; have KY55 := Aside0.mk hy55; clear hy55; replace q55 := eq_true q55) | ((with_reducible refine gate_builtin (b := .append) (xs := #[.tmp 43, .tmp 47]) rfl ?_); (try (refine gate_guard (by rfl) ?_; dsimp only)); at_builtin; refine Kd.R_append_rows k32 (w0 := w) w.heap.size rfl (.tmp 43) (.tmp 47) 23 32 (.agg #[(.int .i64 0), (.int .i64 0)]) 16 rfl Try.underlying23 info32 rfl (by decide) (by omega) v674 y673 y676 _ _ _ (fun k_ => some k_ ≠ (v664 : Value).ownBlock) (fun _ => False) rfl rfl ?aO ?aR (fun _ _ h => h) (fun _ h => h.elim) ?aF ?aB ?aS ?aL ?_; (case aR => exact qq15 HR679.out HB.out); (case aB => exact qq1); (case aF => exact qq47 HO665.out); (case aO => exact (qq2 HO675.out)); (case aS => exact (below_size qq1)); (case aL => have := LMc28.out; omega); intro v681 w56 ho hb hg hat; rw [← Ny680.out] at ho; have n0_ := Aside0.mk (Kd.R_after (ok := (fun _ => True)) (qq2 HO665.out) hg hat); have n1_ := Aside0.mk (hb); have n2_ := Aside0.mk (ho); clear HO665; clear HB; clear HO675; have HO665 := n0_; have HB := n1_; have HO682 := n2_; clear n0_ n1_ n2_; clear ho hb hg hat; obtain ⟨Ao57, co57, eo57⟩ := Kd.R_slice HO665.out; subst eo57) | ((with_reducible refine gate_callee (f := 21) rfl ?_); refine goesL_ (some 50) rfl rfl Try.func21 (by kernel_rfl) rfl #[.slice Ao57 y663.length co57] rfl qq3 ?_; (with_reducible refine (impl_ParcelValid.calls _ _ y663 true _ ?side1 ?side2 A29.out).mono ?_); (case side1 => exact qq11 HO665.out); (case side2 => exact qq62 HO665.out); rintro e w58 ⟨rfl, hb⟩; refine ⟨_, rfl, ?_⟩; have n0_ := Aside0.mk (Kd.R_below (qq2 HO665.out) hb); have n1_ := Aside0.mk (Kd.R_below (qq2 HO682.out) hb); have n2_ := Aside0.mk (below_step qq1 hb); clear HO665; clear HO682; clear HB; have HO665 := n0_; have HO682 := n1_; have HB := n2_; clear n0_ n1_ n2_; (try clear hb); (try clear hb2); (try clear hk); (try clear hi); obtain ⟨Ao59, co59, eo59⟩ := Kd.R_slice HO682.out; subst eo59) | (go_at_call 21; (with_reducible refine (impl_ParcelValid.calls _ _ y680 false _ ?side1 ?side2 A31.out).mono ?_); (case side1 => exact qq11 HO682.out); (case side2 => exact qq62 HO682.out); rintro e w60 ⟨rfl, hb⟩; have n0_ := Aside0.mk (Kd.R_below (qq2 HO665.out) hb); have n1_ := Aside0.mk (Kd.R_below (qq2 HO682.out) hb); have n2_ := Aside0.mk (below_step qq1 hb); clear HO665; clear HO682; clear HB; have HO665 := n0_; have HO682 := n1_; have HB := n2_; clear n0_ n1_ n2_; (try clear hb); (try clear hb2); (try clear hk); (try clear hi)) | ((with_reducible refine gate_dst (N := 57) rfl ?_); (try (refine gate_guard (by rfl) ?_; dsimp only)); refine Kd.R_lit k32 _ 32 ?hg (N := 57) ?hd (xs := ([] : List (S32))) (inner := []) (ok := fun _ => True) (okp := fun _ => True) ?hr ?hp (fun _ hk => hk) trivial (Below.refl _ _) (Nat.le_refl _) (by simp) ?_; (case hd => rfl); (case hg => rfl); (case hr => exact qq22); (case hp => exact (Reps.none _ _)); intro v686 w61 ho62 hb hg_ hnew_; clear hg_ hnew_; (first | rw [← Ny685.out] at ho62 | (simp only [Int.reduceToNat] at ho62; rw [← Ny685.out] at ho62)); have n0_ := Aside0.mk (Kd.R_elder' (qq2 HO665.out) (Kd.R_base ho62) hb); have n1_ := Aside0.mk (Kd.R_elder' (qq2 HO682.out) (Kd.R_base ho62) hb); have n2_ := Aside0.mk (Kd.R_lower (Kd.R_new' (Kd.R_new' ho62 (Kd.R_lt (qq2 HO665.out))) (Kd.R_lt (qq2 HO682.out))) (below_size qq1)); have n3_ := Aside0.mk (below_step qq1 hb); clear HO665; clear HO682; clear HB; have HO665 := n0_; have HO682 := n1_; have HO687 := n2_; have HB := n3_; clear n0_ n1_ n2_ n3_; clear hb ho62) | ((with_reducible refine gate_dst (N := 58) rfl ?_); (try (refine gate_guard (by rfl) ?_; dsimp only)); refine Kd.R_lit k32 _ 32 ?hg (N := 58) ?hd (xs := ([] : List (S32))) (inner := []) (ok := fun _ => True) (okp := fun _ => True) ?hr ?hp (fun _ hk => hk) trivial (Below.refl _ _) (Nat.le_refl _) (by simp) ?_; (case hd => rfl); (case hg => rfl); (case hr => exact qq22); (case hp => exact (Reps.none _ _)); intro v689 w63 ho64 hb hg_ hnew_; clear hg_ hnew_; (first | rw [← Ny688.out] at ho64 | (simp only [Int.reduceToNat] at ho64; rw [← Ny688.out] at ho64)); have n0_ := Aside0.mk (Kd.R_elder' (qq2 HO665.out) (Kd.R_base ho64) hb); have n1_ := Aside0.mk (Kd.R_elder' (qq2 HO682.out) (Kd.R_base ho64) hb); have n2_ := Aside0.mk (Kd.R_elder' (qq2 HO687.out) (Kd.R_base ho64) hb); have n3_ := Aside0.mk (Kd.R_lower (Kd.R_new' (Kd.R_new' (Kd.R_new' ho64 (Kd.R_lt (qq2 HO665.out))) (Kd.R_lt (qq2 HO682.out))) (Kd.R_lt (qq2 HO687.out))) (below_size qq1)); have n4_ := Aside0.mk (below_step qq1 hb); clear HO665; clear HO682; clear HO687; clear HB; have HO665 := n0_; have HO682 := n1_; have HO687 := n2_; have HO690 := n3_; have HB := n4_; clear n0_ n1_ n2_ n3_ n4_; clear hb ho64))
                go_ret3
                exact ⟨_, _, qq39, qq18 HO687.out, qq18 HO690.out, qq1⟩
              ·replace c30 := Bool.eq_false_iff.mpr c30
               subst c30
               have H1 : (some ((([] : List (S32))), (([] : List (S32))), false)) = some (r1, r2, r3) := by rw [if_neg (show ¬ (false = true) by decide)] at H; exact H
               clear H
               have H := H1
               clear H1
               obtain ⟨y691, hy691⟩ : ∃ y_ : List (S32), y_ = (([] : List (S32))) := ⟨_, rfl⟩
               replace H : (some (y691, (([] : List (S32))), false)) = some (r1, r2, r3) := by first | (rw [hy691]; with_reducible exact H) | (have H2_ := (Option.bind_some _ _).symm.trans H; rw [hy691]; with_reducible exact H2_) | (have H2_ := (Option.bind_some _ _).symm.trans H; with_reducible exact H2_) | with_reducible exact H | (rw [hy691]; exact H) | exact H
               have Ny691 := Aside0.mk hy691
               clear hy691
               obtain ⟨y694, hy694⟩ : ∃ y_ : List (S32), y_ = (([] : List (S32))) := ⟨_, rfl⟩
               replace H : (some (y691, y694, false)) = some (r1, r2, r3) := by first | (rw [hy694]; with_reducible exact H) | (have H2_ := (Option.bind_some _ _).symm.trans H; rw [hy694]; with_reducible exact H2_) | (have H2_ := (Option.bind_some _ _).symm.trans H; with_reducible exact H2_) | with_reducible exact H | (rw [hy694]; exact H) | exact H
               have Ny694 := Aside0.mk hy694
               clear hy694
               simp only [Option.some.injEq, Prod.mk.injEq] at H
               obtain ⟨rfl, rfl, rfl⟩ := H
               go_wp2_with (first | ((with_reducible refine gate_dst (N := 31) rfl ?_); (try (refine gate_guard (by rfl) ?_; dsimp only)); refine Kd.R_lit k32 _ 32 ?hg (N := 31) ?hd (xs := ([] : List (S32))) (inner := []) (ok := fun _ => True) (okp := fun _ => True) ?hr ?hp (fun _ hk => hk) trivial (Below.refl _ _) (Nat.le_refl _) (by simp) ?_; (case hd => rfl); (case hg => rfl); (case hr => exact qq22); (case hp => exact (Reps.none _ _)); intro v657 w65 ho66 hb hg_ hnew_; clear hg_ hnew_; (first | rw [← Ny656.out] at ho66 | (simp only [Int.reduceToNat] at ho66; rw [← Ny656.out] at ho66)); have n0_ := Aside0.mk (Kd.R_lower ho66 (below_size qq1)); have n1_ := Aside0.mk (below_step qq1 hb); clear HB; have HO658 := n0_; have HB := n1_; clear n0_ n1_; clear hb ho66; have q67 : ((wrap64 (a2 + 1)) : Int) ≤ ((l0.length : Int) : Int) := of_decide_eq_true qq14; obtain ⟨i067, hi067, _, hsz67, _⟩ := info_parts info32; have hroom67 : l0.length ≤ c0 := HC0.out; have hC67 : Kd.C k32 _ A0 l0.length l0 := HR0.out; have ql67 : (a1 : Int) ≤ ((wrap64 (a2 + 1)) : Int) := of_decide_eq_true qq14; have q067 : (0 : Int) ≤ (a1 : Int) := of_decide_eq_true qq14; have hcut67 := cut_mid (P := Try.prog) 23 32 .i64 .i64 Try.underlying23 hi067 2 hsz67 A0 l0.length c0 a1 (wrap64 (a2 + 1)) q067 ql67 q67 hroom67; have hr67 := Kd.C_mid (lo := (a1 : Int).toNat) (hi := ((wrap64 (a2 + 1)) : Int).toNat) (c := c0) hC67 (by omega) (by omega) hroom67; obtain ⟨A67, hA67⟩ : ∃ Az_, Az_ = (if c0 = (a1 : Int).toNat then A0 else (A0 : Option Addr).map (·.add ((a1 : Int).toNat * 2))) := ⟨_, rfl⟩; obtain ⟨c67, hc67⟩ : ∃ cz_, cz_ = c0 - (a1 : Int).toNat := ⟨_, rfl⟩; have hy67 : y659.length = ((wrap64 (a2 + 1)) : Int).toNat - (a1 : Int).toNat := (qq69 Ny659.out); rw [show ((l0).take ((wrap64 (a2 + 1)) : Int).toNat).drop (a1 : Int).toNat = y659 from Ny659.out.symm] at hr67; replace hr67 : Kd.C k32 _ A67 y659.length y659 := (by rw [hA67]; exact hr67); rw [← hy67, ← hA67, ← hc67] at hcut67; have HR662 := Aside0.mk hr67; have HC662 := Aside0.mk (show y659.length ≤ c67 from by rw [hy67, hc67]; exact Nat.sub_le_sub_right (Nat.le_trans (by omega) hroom67) _); clear hr67 hC67 hroom67 hi067 hsz67 hc67; have KY67 := Aside0.mk hy67; have KA67 := Aside0.mk hA67; clear hy67 hA67; replace q67 := eq_true q67) | ((with_reducible refine gate_builtin (b := .append) (xs := #[.tmp 31, .tmp 36]) rfl ?_); (try (refine gate_guard (by rfl) ?_; dsimp only)); at_builtin; refine Kd.R_append_rows k32 (w0 := w) w.heap.size rfl (.tmp 31) (.tmp 36) 23 32 (.agg #[(.int .i64 0), (.int .i64 0)]) 16 rfl Try.underlying23 info32 rfl (by decide) (by omega) v657 y656 y659 _ _ _ (fun _ => True) (fun _ => False) rfl rfl ?aO ?aR (fun _ _ h => h) (fun _ h => h.elim) ?aF ?aB ?aS ?aL ?_; (case aR => exact qq15 HR662.out HB.out); (case aB => exact qq1); (case aF => exact qq87); (case aO => exact (qq2 HO658.out)); (case aS => exact (below_size qq1)); (case aL => have := LMc21.out; omega); intro v664 w68 ho hb hg hat; rw [← Ny663.out] at ho; have n0_ := Aside0.mk (hb); have n1_ := Aside0.mk (ho); clear HB; clear HO658; have HB := n0_; have HO665 := n1_; clear n0_ n1_; clear ho hb hg hat) | ((with_reducible refine gate_dst (N := 38) rfl ?_); (try (refine gate_guard (by rfl) ?_; dsimp only)); refine Kd.R_lit k32 _ 32 ?hg (N := 38) ?hd (xs := ([] : List (S32))) (inner := []) (ok := fun _ => True) (okp := fun _ => True) ?hr ?hp (fun _ hk => hk) trivial (Below.refl _ _) (Nat.le_refl _) (by simp) ?_; (case hd => rfl); (case hg => rfl); (case hr => exact qq22); (case hp => exact (Reps.none _ _)); intro v667 w69 ho70 hb hg_ hnew_; clear hg_ hnew_; (first | rw [← Ny666.out] at ho70 | (simp only [Int.reduceToNat] at ho70; rw [← Ny666.out] at ho70)); have n0_ := Aside0.mk (Kd.R_elder' (qq2 HO665.out) (Kd.R_base ho70) hb); have n1_ := Aside0.mk (Kd.R_lower (Kd.R_new' ho70 (Kd.R_lt (qq2 HO665.out))) (below_size qq1)); have n2_ := Aside0.mk (below_step qq1 hb); clear HO665; clear HB; have HO665 := n0_; have HO668 := n1_; have HB := n2_; clear n0_ n1_ n2_; clear hb ho70; have q71 : (a2 : Int) ≤ ((l0.length : Int) : Int) := of_decide_eq_true qq14; obtain ⟨i071, hi071, _, hsz71, _⟩ := info_parts info32; have hroom71 : l0.length ≤ c0 := HC0.out; have hC71 : Kd.C k32 _ A0 l0.length l0 := HR0.out; have q071 : (0 : Int) ≤ (a2 : Int) := of_decide_eq_true qq14; have hcut71 := cut_from (P := Try.prog) 23 32 .i64 Try.underlying23 hi071 2 hsz71 A0 l0.length c0 a2 q071 q71; have hr71 := Kd.C_drop (m := (a2 : Int).toNat) (c := c0) hC71 (by omega) hroom71; obtain ⟨A71, hA71⟩ : ∃ Az_, Az_ = (if c0 = (a2 : Int).toNat then A0 else (A0 : Option Addr).map (·.add ((a2 : Int).toNat * 2))) := ⟨_, rfl⟩; obtain ⟨c71, hc71⟩ : ∃ cz_, cz_ = c0 - (a2 : Int).toNat := ⟨_, rfl⟩; have hy71 : y669.length = l0.length - (a2 : Int).toNat := (qq73 Ny669.out); rw [show (l0).drop (a2 : Int).toNat = y669 from Ny669.out.symm] at hr71; replace hr71 : Kd.C k32 _ A71 y669.length y669 := (by rw [hA71]; exact hr71); rw [← hy71, ← hA71, ← hc71] at hcut71; have HR672 := Aside0.mk hr71; have HC672 := Aside0.mk (show y669.length ≤ c71 from by rw [hy71, hc71]; exact Nat.sub_le_sub_right hroom71 _); clear hr71 hC71 hroom71 hi071 hsz71 hc71; have KY71 := Aside0.mk hy71; have KA71 := Aside0.mk hA71; clear hy71 hA71; replace q71 := eq_true q71) | ((with_reducible refine gate_builtin (b := .append) (xs := #[.tmp 38, .tmp 41]) rfl ?_); (try (refine gate_guard (by rfl) ?_; dsimp only)); at_builtin; refine Kd.R_append_rows k32 (w0 := w) w.heap.size rfl (.tmp 38) (.tmp 41) 23 32 (.agg #[(.int .i64 0), (.int .i64 0)]) 16 rfl Try.underlying23 info32 rfl (by decide) (by omega) v667 y666 y669 _ _ _ (fun k_ => some k_ ≠ (v664 : Value).ownBlock) (fun _ => False) rfl rfl ?aO ?aR (fun _ _ h => h) (fun _ h => h.elim) ?aF ?aB ?aS ?aL ?_; (case aR => exact qq15 HR672.out HB.out); (case aB => exact qq1); (case aF => exact qq47 HO665.out); (case aO => exact (qq18 HO668.out)); (case aS => exact (below_size qq1)); (case aL => have := LMc24.out; omega); intro v674 w72 ho hb hg hat; rw [← Ny673.out] at ho; have n0_ := Aside0.mk (Kd.R_after (ok := (fun _ => True)) (qq2 HO665.out) hg hat); have n1_ := Aside0.mk (hb); have n2_ := Aside0.mk (ho); clear HO665; clear HB; clear HO668; have HO665 := n0_; have HB := n1_; have HO675 := n2_; clear n0_ n1_ n2_; clear ho hb hg hat; have q73 : ((ji25) : Int) ≤ ((l0.length : Int) : Int) := of_decide_eq_true qq14; obtain ⟨i073, hi073, _, hsz73, _⟩ := info_parts info32; have hroom73 : l0.length ≤ c0 := HC0.out; have hC73 : Kd.C k32 _ A0 l0.length l0 := HR0.out; have hcut73 := cut_to (P := Try.prog) 23 32 .i64 Try.underlying23 hi073 A0 l0.length c0 (ji25) (of_decide_eq_true qq14) q73 hroom73; have hr73 := Kd.C_take (m := ((ji25) : Int).toNat) hC73 (by omega); have hy73 : y676.length = ((ji25) : Int).toNat := qq94; rw [← Ny676.out] at hr73; rw [← hy73] at hcut73; have HR679 := Aside0.mk hr73; have HC679 := Aside0.mk (show y676.length ≤ c0 from by omega); clear hr73 hC73 hroom73 hi073 hsz73; have KY73 := Aside0.mk hy73; clear hy73; replace q73 := eq_true q73) | ((with_reducible refine gate_builtin (b := .append) (xs := #[.tmp 43, .tmp 47]) rfl ?_); (try (refine gate_guard (by rfl) ?_; dsimp only)); at_builtin; refine Kd.R_append_rows k32 (w0 := w) w.heap.size rfl (.tmp 43) (.tmp 47) 23 32 (.agg #[(.int .i64 0), (.int .i64 0)]) 16 rfl Try.underlying23 info32 rfl (by decide) (by omega) v674 y673 y676 _ _ _ (fun k_ => some k_ ≠ (v664 : Value).ownBlock) (fun _ => False) rfl rfl ?aO ?aR (fun _ _ h => h) (fun _ h => h.elim) ?aF ?aB ?aS ?aL ?_; (case aR => exact qq15 HR679.out HB.out); (case aB => exact qq1); (case aF => exact qq47 HO665.out); (case aO => exact (qq2 HO675.out)); (case aS => exact (below_size qq1)); (case aL => have := LMc28.out; omega); intro v681 w74 ho hb hg hat; rw [← Ny680.out] at ho; have n0_ := Aside0.mk (Kd.R_after (ok := (fun _ => True)) (qq2 HO665.out) hg hat); have n1_ := Aside0.mk (hb); have n2_ := Aside0.mk (ho); clear HO665; clear HB; clear HO675; have HO665 := n0_; have HB := n1_; have HO682 := n2_; clear n0_ n1_ n2_; clear ho hb hg hat; obtain ⟨Ao75, co75, eo75⟩ := Kd.R_slice HO665.out; subst eo75) | ((with_reducible refine gate_callee (f := 21) rfl ?_); refine goesL_ (some 50) rfl rfl Try.func21 (by kernel_rfl) rfl #[.slice Ao75 y663.length co75] rfl qq3 ?_; (with_reducible refine (impl_ParcelValid.calls _ _ y663 false _ ?side1 ?side2 A29.out).mono ?_); (case side1 => exact qq11 HO665.out); (case side2 => exact qq62 HO665.out); rintro e w76 ⟨rfl, hb⟩; refine ⟨_, rfl, ?_⟩; have n0_ := Aside0.mk (Kd.R_below (qq2 HO665.out) hb); have n1_ := Aside0.mk (Kd.R_below (qq2 HO682.out) hb); have n2_ := Aside0.mk (below_step qq1 hb); clear HO665; clear HO682; clear HB; have HO665 := n0_; have HO682 := n1_; have HB := n2_; clear n0_ n1_ n2_; (try clear hb); (try clear hb2); (try clear hk); (try clear hi)) | ((with_reducible refine gate_dst (N := 57) rfl ?_); (try (refine gate_guard (by rfl) ?_; dsimp only)); refine Kd.R_lit k32 _ 32 ?hg (N := 57) ?hd (xs := ([] : List (S32))) (inner := []) (ok := fun _ => True) (okp := fun _ => True) ?hr ?hp (fun _ hk => hk) trivial (Below.refl _ _) (Nat.le_refl _) (by simp) ?_; (case hd => rfl); (case hg => rfl); (case hr => exact qq22); (case hp => exact (Reps.none _ _)); intro v692 w77 ho78 hb hg_ hnew_; clear hg_ hnew_; (first | rw [← Ny691.out] at ho78 | (simp only [Int.reduceToNat] at ho78; rw [← Ny691.out] at ho78)); have n0_ := Aside0.mk (Kd.R_elder' (qq2 HO665.out) (Kd.R_base ho78) hb); have n1_ := Aside0.mk (Kd.R_elder' (qq2 HO682.out) (Kd.R_base ho78) hb); have n2_ := Aside0.mk (Kd.R_lower (Kd.R_new' (Kd.R_new' ho78 (Kd.R_lt (qq2 HO665.out))) (Kd.R_lt (qq2 HO682.out))) (below_size qq1)); have n3_ := Aside0.mk (below_step qq1 hb); clear HO665; clear HO682; clear HB; have HO665 := n0_; have HO682 := n1_; have HO693 := n2_; have HB := n3_; clear n0_ n1_ n2_ n3_; clear hb ho78) | ((with_reducible refine gate_dst (N := 58) rfl ?_); (try (refine gate_guard (by rfl) ?_; dsimp only)); refine Kd.R_lit k32 _ 32 ?hg (N := 58) ?hd (xs := ([] : List (S32))) (inner := []) (ok := fun _ => True) (okp := fun _ => True) ?hr ?hp (fun _ hk => hk) trivial (Below.refl _ _) (Nat.le_refl _) (by simp) ?_; (case hd => rfl); (case hg => rfl); (case hr => exact qq22); (case hp => exact (Reps.none _ _)); intro v695 w79 ho80 hb hg_ hnew_; clear hg_ hnew_; (first | rw [← Ny694.out] at ho80 | (simp only [Int.reduceToNat] at ho80; rw [← Ny694.out] at ho80)); have n0_ := Aside0.mk (Kd.R_elder' (qq2 HO665.out) (Kd.R_base ho80) hb); have n1_ := Aside0.mk (Kd.R_elder' (qq2 HO682.out) (Kd.R_base ho80) hb); have n2_ := Aside0.mk (Kd.R_elder' (qq2 HO693.out) (Kd.R_base ho80) hb); have n3_ := Aside0.mk (Kd.R_lower (Kd.R_new' (Kd.R_new' (Kd.R_new' ho80 (Kd.R_lt (qq2 HO665.out))) (Kd.R_lt (qq2 HO682.out))) (Kd.R_lt (qq2 HO693.out))) (below_size qq1)); have n4_ := Aside0.mk (below_step qq1 hb); clear HO665; clear HO682; clear HO693; clear HB; have HO665 := n0_; have HO682 := n1_; have HO693 := n2_; have HO696 := n3_; have HB := n4_; clear n0_ n1_ n2_ n3_ n4_; clear hb ho80))
               go_ret3
               exact ⟨_, _, qq39, qq18 HO693.out, qq18 HO696.out, qq1⟩
             ·rw [if_neg c28] at H
              exact absurd H (by simp)
            ·rw [if_neg c27] at H
             exact absurd H (by simp)
           ·rw [if_neg c26] at H
            exact absurd H (by simp)
          ·rw [if_neg c24] at H
           exact absurd H (by simp)
         ·rw [if_neg c23] at H
          exact absurd H (by simp)
        ·rw [if_neg c22] at H
         exact absurd H (by simp)
       ·rw [if_neg c21] at H
        exact absurd H (by simp)
      ·rw [if_neg c20] at H
       exact absurd H (by simp)
     ·rw [if_neg c19] at H
      exact absurd H (by simp)
    ·rw [if_neg c18] at H
     exact absurd H (by simp)

end Go.Proofs.Ytgdhgncdpmalcaa.Q
namespace Go.Proofs.Ytgdhgncdpmalcaa.Q
open Go.RowKit Go.Proofs.YtgdhgncdpmalcaaW.PrintWords Go.Proofs.YtgdhgncdpmalcaaW.PrintLast Go.Proofs.YtgdhgncdpmalcaaW.PrintMore
attribute [local go_sem] max2_int min2_int max_two min_two max_three min_three max_four min_four
set_option linter.unusedVariables false
set_option linter.unusedSimpArgs false

/-! ### laws_FnSplitPlace: function 9 -/
/-- The seven ways in which a point can lie against both parts and the whole. -/
def laws_FnSplitPlace.cs (x y z : Int) : Prop := (x = 0 ∧ y = 0 ∧ z = 0) ∨ (x = 0 ∧ y = 0 ∧ z = 1) ∨ (x = 0 ∧ y = -1 ∧ z = 0) ∨ (x = -1 ∧ y = 0 ∧ z = 0) ∨ (x = -1 ∧ y = -1 ∧ z = -1) ∨ (x = 1 ∧ y = -1 ∧ z = 1) ∨ (x = -1 ∧ y = 1 ∧ z = 1)
instance (x y z : Int) : Decidable (laws_FnSplitPlace.cs x y z) := by unfold laws_FnSplitPlace.cs; exact inferInstance
mutual
def laws_FnSplitPlace.j0 : Nat → List Int → List Int → Bool → Option (Bool)
 | 0, _, _, _ => none
 | k + 1, x0, x1, x28 => if x28 = true then (some true) else ((spec_DrawParcelSplit.f k x0).bind fun bt699 => ((impl_ParcelSplit.f k bt699.1 bt699.2.1 bt699.2.2).bind fun bt704 => ((spec_ParcelSplit.f k bt699.1 bt699.2.1 bt699.2.2).bind fun bt711 => (if (bt704.2.2 != bt711.2.2) = true then (laws_FnSplitPlace.j1 k x1 bt699.1 bt704.1 bt704.2.1 bt704.2.2 bt711.1 bt711.2.1 bt711.2.2 true) else ((laws_samePoints.f k bt704.1 bt711.1).bind fun t718 => (if t718 = true then ((laws_samePoints.f k bt704.2.1 bt711.2.1).bind fun t719 => (if t719 = true then (laws_FnSplitPlace.j1 k x1 bt699.1 bt704.1 bt704.2.1 bt704.2.2 bt711.1 bt711.2.1 bt711.2.2 (!bt704.2.2)) else (laws_FnSplitPlace.j1 k x1 bt699.1 bt704.1 bt704.2.1 bt704.2.2 bt711.1 bt711.2.1 bt711.2.2 true))) else (laws_FnSplitPlace.j1 k x1 bt699.1 bt704.1 bt704.2.1 bt704.2.2 bt711.1 bt711.2.1 bt711.2.2 true)))))))
def laws_FnSplitPlace.j1 : Nat → List Int → List (S32) → List (S32) → List (S32) → Bool → List (S32) → List (S32) → Bool → Bool → Option (Bool)
 | 0, _, _, _, _, _, _, _, _, _ => none
 | k + 1, x1, x5, x8, x9, x10, x11, x12, x13, x69 => if x69 = true then (if (x10 == x13) = true then ((laws_samePoints.f k x8 x11).bind fun t720 => (if t720 = true then ((laws_samePoints.f k x9 x12).bind fun t721 => (some t721)) else (some false))) else (some false)) else ((impl_PolyPlace.f x8 (((x1.length : Int) % 13) - 6) (wrap64 ((Int.tmod (wrap64 ((x1.length : Int) / 13)) 13) - 6))).bind fun bt723 => ((impl_PolyPlace.f x9 (((x1.length : Int) % 13) - 6) (wrap64 ((Int.tmod (wrap64 ((x1.length : Int) / 13)) 13) - 6))).bind fun bt725 => ((impl_PolyPlace.f x5 (((x1.length : Int) % 13) - 6) (wrap64 ((Int.tmod (wrap64 ((x1.length : Int) / 13)) 13) - 6))).bind fun bt727 => (if bt723.2 = true then (if bt725.2 = true then (if bt727.2 = true then (if laws_FnSplitPlace.cs bt723.1 bt725.1 bt727.1 then (some true) else none) else (some false)) else (some false)) else (some false)))))
end
def laws_FnSplitPlace.f (k : Nat) (l0 : List Int) (l1 : List Int) : Option (Bool) := if (l0.length : Int) > 1048576 then (laws_FnSplitPlace.j0 k l0 l1 true) else (laws_FnSplitPlace.j0 k l0 l1 (decide ((l1.length : Int) > 1048576)))
set_option maxHeartbeats 8000000 in
set_option maxRecDepth 100000 in
theorem laws_FnSplitPlace.calls (k : Nat) (A0 : Option Addr) (c0 : Nat) (l0 : List Int) (A1 : Option Addr) (c1 : Nat) (l1 : List Int) (r : Bool) (w : World) (hr0 : Kd.C (Kd.int .u8) w A0 l0.length l0) (hc0 : l0.length ≤ c0) (hr1 : Kd.C (Kd.int .u8) w A1 l1.length l1) (hc1 : l1.length ≤ c1) (h : laws_FnSplitPlace.f k l0 l1 = some r) (hT0 : r = true) :
  Calls Try.prog 9 #[.slice A0 l0.length c0, .slice A1 l1.length c1] w fun e w' => e = .returned (.bool r) ∧ Below w.heap.size w w' := by
 have hu32 := Try.underlying32
 have hT := Aside0.mk hT0
 clear hT0
 have HR0 := Aside0.mk hr0
 have HC0 := Aside0.mk hc0
 clear hr0 hc0
 have HR1 := Aside0.mk hr1
 have HC1 := Aside0.mk hc1
 clear hr1 hc1
 have HB := Aside0.mk (Below.refl w.heap.size w)
 have H : (if (l0.length : Int) > 1048576 then (laws_FnSplitPlace.j0 k l0 l1 true) else (laws_FnSplitPlace.j0 k l0 l1 (decide ((l1.length : Int) > 1048576)))) = some r := h
 clear h
 have HC3 := Aside0.mk H
 clear H
 go_enter Try.func9, Try.ntmps9
 go_upto_region 1 with (fail)
 go_cut [28] (fun v28 wc => ∃ (kq : Nat) (x28_2 : Bool), v28 = .bool x28_2 ∧ Aside0 (laws_FnSplitPlace.j0 kq l0 l1 x28_2 = some r) ∧ Aside0 (kq ≤ k) ∧ Aside0 (Below w.heap.size w wc))
 case first =>
  have H := HC3.out
  clear HC3
  by_cases c4 : (l0.length : Int) > 1048576
  ·rw [if_pos c4] at H
   have c4b0 : decide (1048576 < (l0.length : Int)) = true := decide_eq_true c4
   have c4b1 : decide (1048576 < l0.length) = true := decide_eq_true (by omega)
   clear c4
   (first | rw [c4b0] | (simp only [i64_w, i32_w]; rw [c4b0]) | skip)
   have H' := Aside0.mk H
   clear H
   go_wp2
   go_meet
   case rel => exact ⟨_, (true), qq25, H', ⟨qq40⟩, ⟨qq1⟩⟩
  ·rw [if_neg c4] at H
   have c4b0 : decide (1048576 < (l0.length : Int)) = false := decide_eq_false c4
   have c4b1 : decide (1048576 < l0.length) = false := decide_eq_false (by omega)
   clear c4
   (first | rw [c4b0] | (simp only [i64_w, i32_w]; rw [c4b0]) | skip)
   have H' := Aside0.mk H
   clear H
   go_wp2
   go_meet
   case rel => exact ⟨_, (decide ((l1.length : Int) > 1048576)), qq25, H', ⟨qq40⟩, ⟨qq1⟩⟩
 case rest =>
  clear HC3
  try clear c1
  try clear p2
  try clear c4
  try clear c4b0
  try clear c4b1
  obtain ⟨kq, x28_2, rfl, HA, HJ2, HB⟩ := hcut
  cases kq with
  | zero => exact absurd HA.out (by simp [laws_FnSplitPlace.j0])
  | succ kj2 =>
   have H := HA.out
   clear HA
   simp only [laws_FnSplitPlace.j0] at H
   by_cases c5 : x28_2 = true
   ·subst c5
    have H1 : (some true) = some r := by rw [if_pos rfl] at H; exact H
    clear H
    have H := H1
    clear H1
    obtain rfl := Option.some.inj H
    go_wp2
    go_ret
    exact ⟨qq10, qq1⟩
   ·replace c5 := Bool.eq_false_iff.mpr c5
    subst c5
    have H1 : ((spec_DrawParcelSplit.f kj2 l0).bind fun bt699 => ((impl_ParcelSplit.f kj2 bt699.1 bt699.2.1 bt699.2.2).bind fun bt704 => ((spec_ParcelSplit.f kj2 bt699.1 bt699.2.1 bt699.2.2).bind fun bt711 => (if (bt704.2.2 != bt711.2.2) = true then (laws_FnSplitPlace.j1 kj2 l1 bt699.1 bt704.1 bt704.2.1 bt704.2.2 bt711.1 bt711.2.1 bt711.2.2 true) else ((laws_samePoints.f kj2 bt704.1 bt711.1).bind fun t718 => (if t718 = true then ((laws_samePoints.f kj2 bt704.2.1 bt711.2.1).bind fun t719 => (if t719 = true then (laws_FnSplitPlace.j1 kj2 l1 bt699.1 bt704.1 bt704.2.1 bt704.2.2 bt711.1 bt711.2.1 bt711.2.2 (!bt704.2.2)) else (laws_FnSplitPlace.j1 kj2 l1 bt699.1 bt704.1 bt704.2.1 bt704.2.2 bt711.1 bt711.2.1 bt711.2.2 true))) else (laws_FnSplitPlace.j1 kj2 l1 bt699.1 bt704.1 bt704.2.1 bt704.2.2 bt711.1 bt711.2.1 bt711.2.2 true))))))) = some r := by rw [if_neg (show ¬ (false = true) by decide)] at H; exact H
    clear H
    have H := H1
    clear H1
    replace H := Option.bind_eq_some_iff.mp H
    obtain ⟨⟨t699, t700, t701⟩, A60, H⟩ := H
    replace H : ((impl_ParcelSplit.f kj2 t699 t700 t701).bind fun bt704 => ((spec_ParcelSplit.f kj2 t699 t700 t701).bind fun bt711 => (if (bt704.2.2 != bt711.2.2) = true then (laws_FnSplitPlace.j1 kj2 l1 t699 bt704.1 bt704.2.1 bt704.2.2 bt711.1 bt711.2.1 bt711.2.2 true) else ((laws_samePoints.f kj2 bt704.1 bt711.1).bind fun t718 => (if t718 = true then ((laws_samePoints.f kj2 bt704.2.1 bt711.2.1).bind fun t719 => (if t719 = true then (laws_FnSplitPlace.j1 kj2 l1 t699 bt704.1 bt704.2.1 bt704.2.2 bt711.1 bt711.2.1 bt711.2.2 (!bt704.2.2)) else (laws_FnSplitPlace.j1 kj2 l1 t699 bt704.1 bt704.2.1 bt704.2.2 bt711.1 bt711.2.1 bt711.2.2 true))) else (laws_FnSplitPlace.j1 kj2 l1 t699 bt704.1 bt704.2.1 bt704.2.2 bt711.1 bt711.2.1 bt711.2.2 true)))))) = some r := H
    have A6 := Aside0.mk A60
    clear A60
    replace H := Option.bind_eq_some_iff.mp H
    obtain ⟨⟨t704, t705, t706⟩, A70, H⟩ := H
    replace H : ((spec_ParcelSplit.f kj2 t699 t700 t701).bind fun bt711 => (if (t706 != bt711.2.2) = true then (laws_FnSplitPlace.j1 kj2 l1 t699 t704 t705 t706 bt711.1 bt711.2.1 bt711.2.2 true) else ((laws_samePoints.f kj2 t704 bt711.1).bind fun t718 => (if t718 = true then ((laws_samePoints.f kj2 t705 bt711.2.1).bind fun t719 => (if t719 = true then (laws_FnSplitPlace.j1 kj2 l1 t699 t704 t705 t706 bt711.1 bt711.2.1 bt711.2.2 (!t706)) else (laws_FnSplitPlace.j1 kj2 l1 t699 t704 t705 t706 bt711.1 bt711.2.1 bt711.2.2 true))) else (laws_FnSplitPlace.j1 kj2 l1 t699 t704 t705 t706 bt711.1 bt711.2.1 bt711.2.2 true))))) = some r := H
    have A7 := Aside0.mk A70
    clear A70
    replace H := Option.bind_eq_some_iff.mp H
    obtain ⟨⟨t711, t712, t713⟩, A80, H⟩ := H
    replace H : (if (t706 != t713) = true then (laws_FnSplitPlace.j1 kj2 l1 t699 t704 t705 t706 t711 t712 t713 true) else ((laws_samePoints.f kj2 t704 t711).bind fun t718 => (if t718 = true then ((laws_samePoints.f kj2 t705 t712).bind fun t719 => (if t719 = true then (laws_FnSplitPlace.j1 kj2 l1 t699 t704 t705 t706 t711 t712 t713 (!t706)) else (laws_FnSplitPlace.j1 kj2 l1 t699 t704 t705 t706 t711 t712 t713 true))) else (laws_FnSplitPlace.j1 kj2 l1 t699 t704 t705 t706 t711 t712 t713 true)))) = some r := H
    have A8 := Aside0.mk A80
    clear A80
    have HC9 := Aside0.mk H
    clear H
    go_upto_region 6 with (first | ((with_reducible refine gate_callee (f := 33) rfl ?_); refine goesL_ (some 31) rfl rfl Try.func33 (by kernel_rfl) rfl #[.slice A0 l0.length c0] rfl qq3 ?_; (with_reducible refine (spec_DrawParcelSplit.calls kj2 _ _ l0 t699 t700 t701 _ ?side1 ?side2 A6.out).mono ?_); (case side1 => exact qq83); (case side2 => exact HC0.out); rintro e w10 ⟨v702, rfl, ho0, hb⟩; refine ⟨_, rfl, ?_⟩; have n0_ := Aside0.mk (Kd.Q_lower ho0 (below_size qq1)); have n1_ := Aside0.mk (below_step qq1 hb); clear HB; have HO703 := n0_; have HB := n1_; clear n0_ n1_; (try clear hb); (try clear hb2); (try clear hk); (try clear hi); (try clear ho0); obtain ⟨Ao11, co11, eo11, _⟩ := Kd.Q_slice HO703.out; subst eo11) | ((with_reducible refine gate_callee (f := 34) rfl ?_); refine goesL_ (some 39) rfl rfl Try.func34 (by kernel_rfl) rfl #[.slice Ao11 t699.length co11, .int .i64 t700, .int .i64 t701] rfl qq3 ?_; (with_reducible refine (impl_ParcelSplit.calls kj2 _ _ t699 t700 t701 t704 t705 t706 _ ?side1 ?side2 A7.out).mono ?_); (case side1 => exact qq36 HO703.out); (case side2 => exact (Kd.Q_reads' HO703.out).2.1); rintro e w12 ⟨v707, v709, rfl, ho0, ho1, hb⟩; refine ⟨_, rfl, ?_⟩; have n0_ := Aside0.mk (Kd.Q_mono (Kd.Q_told (Kd.Q_told (Kd.Q_old (qq16 HO703.out) hb) (Kd.R_base ho0)) (Kd.R_base ho1)) (fun _ h_ => h_.1)); have n1_ := Aside0.mk (Kd.R_lower (Kd.R_new' ho0 (Kd.Q_lt (qq16 HO703.out))) (below_size qq1)); have n2_ := Aside0.mk (Kd.R_lower (Kd.R_new' ho1 (Kd.Q_lt (qq16 HO703.out))) (below_size qq1)); have n3_ := Aside0.mk (below_step qq1 hb); clear HO703; clear HB; have HO703 := n0_; have HO708 := n1_; have HO710 := n2_; have HB := n3_; clear n0_ n1_ n2_ n3_; (try clear hb); (try clear hb2); (try clear hk); (try clear hi); (try clear ho0); (try clear ho1)) | ((with_reducible refine gate_callee (f := 35) rfl ?_); refine goesL_ (some 47) rfl rfl Try.func35 (by kernel_rfl) rfl #[.slice Ao11 t699.length co11, .int .i64 t700, .int .i64 t701] rfl qq3 ?_; (with_reducible refine (spec_ParcelSplit.calls kj2 _ _ t699 t700 t701 t711 t712 t713 _ ?side1 ?side2 A8.out).mono ?_); (case side1 => exact qq36 HO703.out); (case side2 => exact (Kd.Q_reads' HO703.out).2.1); rintro e w13 ⟨v714, v716, rfl, ho0, ho1, hb⟩; refine ⟨_, rfl, ?_⟩; have n0_ := Aside0.mk (Kd.Q_mono (Kd.Q_told (Kd.Q_told (Kd.Q_old (qq16 HO703.out) hb) (Kd.R_base ho0)) (Kd.R_base ho1)) (fun _ h_ => h_.1)); have n1_ := Aside0.mk (Kd.R_mono (Kd.R_told (Kd.R_told (Kd.R_old (qq2 HO708.out) hb) (Kd.R_base ho0)) (Kd.R_base ho1)) (fun _ h_ => h_.1)); have n2_ := Aside0.mk (Kd.R_mono (Kd.R_told (Kd.R_told (Kd.R_old (qq2 HO710.out) hb) (Kd.R_base ho0)) (Kd.R_base ho1)) (fun _ h_ => h_.1)); have n3_ := Aside0.mk (Kd.R_lower (Kd.R_new' (Kd.R_new' (Kd.R_new' ho0 (Kd.Q_lt (qq16 HO703.out))) (Kd.R_lt (qq2 HO708.out))) (Kd.R_lt (qq2 HO710.out))) (below_size qq1)); have n4_ := Aside0.mk (Kd.R_lower (Kd.R_new' (Kd.R_new' (Kd.R_new' ho1 (Kd.Q_lt (qq16 HO703.out))) (Kd.R_lt (qq2 HO708.out))) (Kd.R_lt (qq2 HO710.out))) (below_size qq1)); have n5_ := Aside0.mk (below_step qq1 hb); clear HO703; clear HO708; clear HO710; clear HB; have HO703 := n0_; have HO708 := n1_; have HO710 := n2_; have HO715 := n3_; have HO717 := n4_; have HB := n5_; clear n0_ n1_ n2_ n3_ n4_ n5_; (try clear hb); (try clear hb2); (try clear hk); (try clear hi); (try clear ho0); (try clear ho1)))
    (try simp only [Act.put, List.setIfInBounds_toArray, List.set_cons_zero, List.set_cons_succ])
    go_cut [69] (fun v69 wc => ∃ (kq : Nat) (x69_8 : Bool), v69 = .bool x69_8 ∧ Aside0 (laws_FnSplitPlace.j1 kq l1 t699 t704 t705 t706 t711 t712 t713 x69_8 = some r) ∧ Aside0 (kq ≤ kj2) ∧ Aside0 (Kd.Q k32 32 wc w.heap.size (fun k_ => some k_ ≠ (v707 : Value).ownBlock ∧ some k_ ≠ (v709 : Value).ownBlock ∧ some k_ ≠ (v714 : Value).ownBlock ∧ some k_ ≠ (v716 : Value).ownBlock) (.slice Ao11 t699.length co11) t699) ∧ Aside0 (Kd.R k32 32 wc w.heap.size (fun k_ => some k_ ≠ ((.slice Ao11 t699.length co11) : Value).ownBlock ∧ some k_ ≠ (v709 : Value).ownBlock ∧ some k_ ≠ (v714 : Value).ownBlock ∧ some k_ ≠ (v716 : Value).ownBlock) v707 t704) ∧ Aside0 (Kd.R k32 32 wc w.heap.size (fun k_ => some k_ ≠ ((.slice Ao11 t699.length co11) : Value).ownBlock ∧ some k_ ≠ (v707 : Value).ownBlock ∧ some k_ ≠ (v714 : Value).ownBlock ∧ some k_ ≠ (v716 : Value).ownBlock) v709 t705) ∧ Aside0 (Kd.R k32 32 wc w.heap.size (fun k_ => some k_ ≠ ((.slice Ao11 t699.length co11) : Value).ownBlock ∧ some k_ ≠ (v707 : Value).ownBlock ∧ some k_ ≠ (v709 : Value).ownBlock ∧ some k_ ≠ (v716 : Value).ownBlock) v714 t711) ∧ Aside0 (Kd.R k32 32 wc w.heap.size (fun k_ => some k_ ≠ ((.slice Ao11 t699.length co11) : Value).ownBlock ∧ some k_ ≠ (v707 : Value).ownBlock ∧ some k_ ≠ (v709 : Value).ownBlock ∧ some k_ ≠ (v714 : Value).ownBlock) v716 t712) ∧ Aside0 (Below w.heap.size w wc))
    case first =>
     have H := HC9.out
     clear HC9
     by_cases c14 : (t706 != t713) = true
     ·rw [if_pos c14] at H
      have c14b0 : (t706 != t713) = true := c14
      (try (have c14b1 : decide (t706 = t713) = false := by simpa using c14))
      (try (have c14b2 : (t706 == t713) = false := by simpa using c14))
      (try (have c14b3 : ¬ (t706 = t713) := by simpa using c14))
      clear c14
      (first | rw [c14b0] | (simp only [i64_w, i32_w]; rw [c14b0]) | skip)
      have H' := Aside0.mk H
      clear H
      go_wp2
      go_meet
      case rel => exact ⟨_, (true), qq25, H', ⟨qq76⟩, ⟨qq44⟩, ⟨qq37 HO708.out⟩, ⟨qq37 HO710.out⟩, ⟨qq38 HO715.out⟩, ⟨qq38 HO717.out⟩, ⟨qq1⟩⟩
     ·rw [if_neg c14] at H
      have c14b0 : (t706 != t713) = false := by simpa using c14
      (try (have c14b1 : decide (t706 = t713) = true := by simpa using c14))
      (try (have c14b2 : (t706 == t713) = true := by simpa using c14))
      clear c14
      (first | rw [c14b0] | (simp only [i64_w, i32_w]; rw [c14b0]) | skip)
      replace H := Option.bind_eq_some_iff.mp H
      obtain ⟨t718, A150, H⟩ := H
      replace H : (if t718 = true then ((laws_samePoints.f kj2 t705 t712).bind fun t719 => (if t719 = true then (laws_FnSplitPlace.j1 kj2 l1 t699 t704 t705 t706 t711 t712 t713 (!t706)) else (laws_FnSplitPlace.j1 kj2 l1 t699 t704 t705 t706 t711 t712 t713 true))) else (laws_FnSplitPlace.j1 kj2 l1 t699 t704 t705 t706 t711 t712 t713 true)) = some r := H
      have A15 := Aside0.mk A150
      clear A150
      by_cases c16 : t718 = true
      ·subst c16
       have H1 : ((laws_samePoints.f kj2 t705 t712).bind fun t719 => (if t719 = true then (laws_FnSplitPlace.j1 kj2 l1 t699 t704 t705 t706 t711 t712 t713 (!t706)) else (laws_FnSplitPlace.j1 kj2 l1 t699 t704 t705 t706 t711 t712 t713 true))) = some r := by rw [if_pos rfl] at H; exact H
       clear H
       have H := H1
       clear H1
       replace H := Option.bind_eq_some_iff.mp H
       obtain ⟨t719, A170, H⟩ := H
       replace H : (if t719 = true then (laws_FnSplitPlace.j1 kj2 l1 t699 t704 t705 t706 t711 t712 t713 (!t706)) else (laws_FnSplitPlace.j1 kj2 l1 t699 t704 t705 t706 t711 t712 t713 true)) = some r := H
       have A17 := Aside0.mk A170
       clear A170
       by_cases c18 : t719 = true
       ·subst c18
        have H1 : (laws_FnSplitPlace.j1 kj2 l1 t699 t704 t705 t706 t711 t712 t713 (!t706)) = some r := by rw [if_pos rfl] at H; exact H
        clear H
        have H := H1
        clear H1
        have H' := Aside0.mk H
        clear H
        obtain ⟨Ao19, co19, eo19⟩ := Kd.R_slice HO708.out
        subst eo19
        obtain ⟨Ao20, co20, eo20⟩ := Kd.R_slice HO715.out
        subst eo20
        go_wp2_with (first | (go_at_call 36; (with_reducible refine (laws_samePoints.calls kj2 _ _ t704 _ _ t711 true _ ?side1 ?side2 ?side3 ?side4 A15.out).mono ?_); (case side1 => exact qq11 HO708.out); (case side2 => exact qq62 HO708.out); (case side3 => exact qq11 HO715.out); (case side4 => exact qq62 HO715.out); rintro e w' ⟨rfl, ⟨nd, rfl⟩⟩; obtain ⟨Ao21, co21, eo21⟩ := Kd.R_slice HO710.out; subst eo21; obtain ⟨Ao22, co22, eo22⟩ := Kd.R_slice HO717.out; subst eo22) | (go_at_call 36; (with_reducible refine (laws_samePoints.calls kj2 _ _ t705 _ _ t712 true _ ?side1 ?side2 ?side3 ?side4 A17.out).mono ?_); (case side1 => exact qq11 HO710.out); (case side2 => exact qq62 HO710.out); (case side3 => exact qq11 HO717.out); (case side4 => exact qq62 HO717.out); rintro e w' ⟨rfl, ⟨nd, rfl⟩⟩))
        go_meet
        case rel => exact ⟨_, (!t706), qq25, H', ⟨qq76⟩, ⟨qq44⟩, ⟨qq37 HO708.out⟩, ⟨qq37 HO710.out⟩, ⟨qq38 HO715.out⟩, ⟨qq38 HO717.out⟩, ⟨qq1⟩⟩
       ·replace c18 := Bool.eq_false_iff.mpr c18
        subst c18
        have H1 : (laws_FnSplitPlace.j1 kj2 l1 t699 t704 t705 t706 t711 t712 t713 true) = some r := by rw [if_neg (show ¬ (false = true) by decide)] at H; exact H
        clear H
        have H := H1
        clear H1
        have H' := Aside0.mk H
        clear H
        obtain ⟨Ao23, co23, eo23⟩ := Kd.R_slice HO708.out
        subst eo23
        obtain ⟨Ao24, co24, eo24⟩ := Kd.R_slice HO715.out
        subst eo24
        go_wp2_with (first | (go_at_call 36; (with_reducible refine (laws_samePoints.calls kj2 _ _ t704 _ _ t711 true _ ?side1 ?side2 ?side3 ?side4 A15.out).mono ?_); (case side1 => exact qq11 HO708.out); (case side2 => exact qq62 HO708.out); (case side3 => exact qq11 HO715.out); (case side4 => exact qq62 HO715.out); rintro e w' ⟨rfl, ⟨nd, rfl⟩⟩; obtain ⟨Ao25, co25, eo25⟩ := Kd.R_slice HO710.out; subst eo25; obtain ⟨Ao26, co26, eo26⟩ := Kd.R_slice HO717.out; subst eo26) | (go_at_call 36; (with_reducible refine (laws_samePoints.calls kj2 _ _ t705 _ _ t712 false _ ?side1 ?side2 ?side3 ?side4 A17.out).mono ?_); (case side1 => exact qq11 HO710.out); (case side2 => exact qq62 HO710.out); (case side3 => exact qq11 HO717.out); (case side4 => exact qq62 HO717.out); rintro e w' ⟨rfl, ⟨nd, rfl⟩⟩))
        go_meet
        case rel => exact ⟨_, (true), qq25, H', ⟨qq76⟩, ⟨qq44⟩, ⟨qq37 HO708.out⟩, ⟨qq37 HO710.out⟩, ⟨qq38 HO715.out⟩, ⟨qq38 HO717.out⟩, ⟨qq1⟩⟩
      ·replace c16 := Bool.eq_false_iff.mpr c16
       subst c16
       have H1 : (laws_FnSplitPlace.j1 kj2 l1 t699 t704 t705 t706 t711 t712 t713 true) = some r := by rw [if_neg (show ¬ (false = true) by decide)] at H; exact H
       clear H
       have H := H1
       clear H1
       have H' := Aside0.mk H
       clear H
       obtain ⟨Ao27, co27, eo27⟩ := Kd.R_slice HO708.out
       subst eo27
       obtain ⟨Ao28, co28, eo28⟩ := Kd.R_slice HO715.out
       subst eo28
       go_wp2_with (first | (go_at_call 36; (with_reducible refine (laws_samePoints.calls kj2 _ _ t704 _ _ t711 false _ ?side1 ?side2 ?side3 ?side4 A15.out).mono ?_); (case side1 => exact qq11 HO708.out); (case side2 => exact qq62 HO708.out); (case side3 => exact qq11 HO715.out); (case side4 => exact qq62 HO715.out); rintro e w' ⟨rfl, ⟨nd, rfl⟩⟩))
       go_meet
       case rel => exact ⟨_, (true), qq25, H', ⟨qq76⟩, ⟨qq44⟩, ⟨qq37 HO708.out⟩, ⟨qq37 HO710.out⟩, ⟨qq38 HO715.out⟩, ⟨qq38 HO717.out⟩, ⟨qq1⟩⟩
    case rest =>
     clear HC9
     try clear c1
     try clear p2
     try clear c3
     try clear c4
     try clear c4b0
     try clear c4b1
     try clear c5
     try clear c9
     try clear c14
     try clear c14b0
     try clear c14b1
     try clear c14b2
     try clear c16
     try clear c18
     try clear p2
     obtain ⟨kq, x69_8, rfl, HA, HJ8, HO_5, HO_8, HO_9, HO_11, HO_12, HB⟩ := hcut
     cases kq with
     | zero => exact absurd HA.out (by simp [laws_FnSplitPlace.j1])
     | succ kj8 =>
      have H := HA.out
      clear HA
      simp only [laws_FnSplitPlace.j1] at H
      by_cases c29 : x69_8 = true
      ·subst c29
       have H1 : (if (t706 == t713) = true then ((laws_samePoints.f kj8 t704 t711).bind fun t720 => (if t720 = true then ((laws_samePoints.f kj8 t705 t712).bind fun t721 => (some t721)) else (some false))) else (some false)) = some r := by rw [if_pos rfl] at H; exact H
       clear H
       have H := H1
       clear H1
       by_cases c30 : (t706 == t713) = true
       ·rw [if_pos c30] at H
        have c30b0 : (t706 == t713) = true := c30
        (try (have c30b1 : decide (t706 = t713) = true := by simpa using c30))
        (try (have c30b2 : (t706 == t713) = true := by simpa using c30))
        clear c30
        replace H := Option.bind_eq_some_iff.mp H
        obtain ⟨t720, A310, H⟩ := H
        replace H : (if t720 = true then ((laws_samePoints.f kj8 t705 t712).bind fun t721 => (some t721)) else (some false)) = some r := H
        have A31 := Aside0.mk A310
        clear A310
        by_cases c32 : t720 = true
        ·subst c32
         have H1 : ((laws_samePoints.f kj8 t705 t712).bind fun t721 => (some t721)) = some r := by rw [if_pos rfl] at H; exact H
         clear H
         have H := H1
         clear H1
         replace H := Option.bind_eq_some_iff.mp H
         obtain ⟨t721, A330, H⟩ := H
         replace H : (some t721) = some r := H
         have A33 := Aside0.mk A330
         clear A330
         obtain rfl := Option.some.inj H
         obtain ⟨Ao34, co34, eo34⟩ := Kd.R_slice HO_8.out
         subst eo34
         obtain ⟨Ao35, co35, eo35⟩ := Kd.R_slice HO_11.out
         subst eo35
         go_wp2_with (first | (go_at_call 36; (with_reducible refine (laws_samePoints.calls kj8 _ _ t704 _ _ t711 true _ ?side1 ?side2 ?side3 ?side4 A31.out).mono ?_); (case side1 => exact qq11 HO_8.out); (case side2 => exact qq62 HO_8.out); (case side3 => exact qq11 HO_11.out); (case side4 => exact qq62 HO_11.out); rintro e w' ⟨rfl, ⟨nd, rfl⟩⟩; obtain ⟨Ao36, co36, eo36⟩ := Kd.R_slice HO_9.out; subst eo36; obtain ⟨Ao37, co37, eo37⟩ := Kd.R_slice HO_12.out; subst eo37) | (go_at_call 36; (with_reducible refine (laws_samePoints.calls kj8 _ _ t705 _ _ t712 t721 _ ?side1 ?side2 ?side3 ?side4 A33.out).mono ?_); (case side1 => exact qq11 HO_9.out); (case side2 => exact qq62 HO_9.out); (case side3 => exact qq11 HO_12.out); (case side4 => exact qq62 HO_12.out); rintro e w' ⟨rfl, ⟨nd, rfl⟩⟩))
         go_ret
         exact ⟨qq10, qq1⟩
        ·replace c32 := Bool.eq_false_iff.mpr c32
         subst c32
         have H1 : (some false) = some r := by rw [if_neg (show ¬ (false = true) by decide)] at H; exact H
         clear H
         have H := H1
         clear H1
         exact absurd ((Option.some.inj H).trans hT.out) (by decide)
       ·rw [if_neg c30] at H
        have c30b0 : (t706 == t713) = false := by simpa using c30
        (try (have c30b1 : decide (t706 = t713) = false := by simpa using c30))
        (try (have c30b2 : (t706 == t713) = false := by simpa using c30))
        (try (have c30b3 : ¬ (t706 = t713) := by simpa using c30))
        clear c30
        exact absurd ((Option.some.inj H).trans hT.out) (by decide)
      ·replace c29 := Bool.eq_false_iff.mpr c29
       subst c29
       have H1 : ((impl_PolyPlace.f t704 (((l1.length : Int) % 13) - 6) (wrap64 ((Int.tmod (wrap64 ((l1.length : Int) / 13)) 13) - 6))).bind fun bt723 => ((impl_PolyPlace.f t705 (((l1.length : Int) % 13) - 6) (wrap64 ((Int.tmod (wrap64 ((l1.length : Int) / 13)) 13) - 6))).bind fun bt725 => ((impl_PolyPlace.f t699 (((l1.length : Int) % 13) - 6) (wrap64 ((Int.tmod (wrap64 ((l1.length : Int) / 13)) 13) - 6))).bind fun bt727 => (if bt723.2 = true then (if bt725.2 = true then (if bt727.2 = true then (if laws_FnSplitPlace.cs bt723.1 bt725.1 bt727.1 then (some true) else none) else (some false)) else (some false)) else (some false))))) = some r := by rw [if_neg (show ¬ (false = true) by decide)] at H; exact H
       clear H
       have H := H1
       clear H1
       replace H := Option.bind_eq_some_iff.mp H
       obtain ⟨⟨t723, t724⟩, A380, H⟩ := H
       replace H : ((impl_PolyPlace.f t705 (((l1.length : Int) % 13) - 6) (wrap64 ((Int.tmod (wrap64 ((l1.length : Int) / 13)) 13) - 6))).bind fun bt725 => ((impl_PolyPlace.f t699 (((l1.length : Int) % 13) - 6) (wrap64 ((Int.tmod (wrap64 ((l1.length : Int) / 13)) 13) - 6))).bind fun bt727 => (if t724 = true then (if bt725.2 = true then (if bt727.2 = true then (if laws_FnSplitPlace.cs t723 bt725.1 bt727.1 then (some true) else none) else (some false)) else (some false)) else (some false)))) = some r := H
       have A38 := Aside0.mk A380
       clear A380
       replace H := Option.bind_eq_some_iff.mp H
       obtain ⟨⟨t725, t726⟩, A390, H⟩ := H
       replace H : ((impl_PolyPlace.f t699 (((l1.length : Int) % 13) - 6) (wrap64 ((Int.tmod (wrap64 ((l1.length : Int) / 13)) 13) - 6))).bind fun bt727 => (if t724 = true then (if t726 = true then (if bt727.2 = true then (if laws_FnSplitPlace.cs t723 t725 bt727.1 then (some true) else none) else (some false)) else (some false)) else (some false))) = some r := H
       have A39 := Aside0.mk A390
       clear A390
       replace H := Option.bind_eq_some_iff.mp H
       obtain ⟨⟨t727, t728⟩, A400, H⟩ := H
       replace H : (if t724 = true then (if t726 = true then (if t728 = true then (if laws_FnSplitPlace.cs t723 t725 t727 then (some true) else none) else (some false)) else (some false)) else (some false)) = some r := H
       have A40 := Aside0.mk A400
       clear A400
       by_cases c41 : t724 = true
       ·subst c41
        have H1 : (if t726 = true then (if t728 = true then (if laws_FnSplitPlace.cs t723 t725 t727 then (some true) else none) else (some false)) else (some false)) = some r := by rw [if_pos rfl] at H; exact H
        clear H
        have H := H1
        clear H1
        by_cases c42 : t726 = true
        ·subst c42
         have H1 : (if t728 = true then (if laws_FnSplitPlace.cs t723 t725 t727 then (some true) else none) else (some false)) = some r := by rw [if_pos rfl] at H; exact H
         clear H
         have H := H1
         clear H1
         by_cases c43 : t728 = true
         ·subst c43
          have H1 : (if laws_FnSplitPlace.cs t723 t725 t727 then (some true) else none) = some r := by rw [if_pos rfl] at H; exact H
          clear H
          have H := H1
          clear H1
          by_cases csc : laws_FnSplitPlace.cs t723 t725 t727
          ·rw [if_pos csc] at H
           obtain rfl := Option.some.inj H
           unfold laws_FnSplitPlace.cs at csc
           clear H
           rcases csc with ⟨ce1, ce2, ce3⟩ | ⟨ce1, ce2, ce3⟩ | ⟨ce1, ce2, ce3⟩ | ⟨ce1, ce2, ce3⟩ | ⟨ce1, ce2, ce3⟩ | ⟨ce1, ce2, ce3⟩ | ⟨ce1, ce2, ce3⟩
           ·have ck1 : decide (t723 < 1) = true := by rw [ce1]; rfl
            have ck2 : decide (t725 < 1) = true := by rw [ce2]; rfl
            have ck3 : decide ((-1) < t727) = true := by rw [ce3]; rfl
            have ck4 : decide (t727 < 1) = true := by rw [ce3]; rfl
            have ck5 : decide (0 ≤ t723) = true := by rw [ce1]; rfl
            have ck6 : decide (0 ≤ t725) = true := by rw [ce2]; rfl
            have ck7 : (t723 == (-1)) = false := by rw [ce1]; rfl
            have ck8 : (t725 == (-1)) = false := by rw [ce2]; rfl
            have ck9 : (t727 == 1) = false := by rw [ce3]; rfl
            clear ce1 ce2 ce3
            go_wp2_with (first | ((with_reducible refine gate_dst (N := 14) rfl ?_); (try (refine gate_guard (by rfl) ?_; dsimp only)); refine box_event ?hg (N := 14) ?hd (cs := #[.int .i64 0, .int .i64 0]) (t := 32) ?hr ?_; (case hd => rfl); (case hg => rfl); (case hr => exact qq22); intro gb722 hg w141 hbox hb; have n0_ := Aside0.mk (Kd.Q_below (Kd.Q_elderB (qq16 HO_5.out) gb722 (Nat.le_of_eq hg.symm)) hb); have n1_ := Aside0.mk (Kd.R_below (Kd.R_elderB (qq2 HO_8.out) gb722 (Nat.le_of_eq hg.symm)) hb); have n2_ := Aside0.mk (Kd.R_below (Kd.R_elderB (qq2 HO_9.out) gb722 (Nat.le_of_eq hg.symm)) hb); have n3_ := Aside0.mk (Kd.R_below (Kd.R_elderB (qq2 HO_11.out) gb722 (Nat.le_of_eq hg.symm)) hb); have n4_ := Aside0.mk (Kd.R_below (Kd.R_elderB (qq2 HO_12.out) gb722 (Nat.le_of_eq hg.symm)) hb); have n5_ := Aside0.mk (below_step qq1 hb); have n6_ := Aside0.mk (hbox); have n7_ := Aside0.mk ((qq35 : w.heap.size ≤ gb722)); have n8_ := Aside0.mk ((qq35 : w.heap.size ≤ gb722)); clear HO_5; clear HO_8; clear HO_9; clear HO_11; clear HO_12; clear HB; have HO_5 := n0_; have HO_8 := n1_; have HO_9 := n2_; have HO_11 := n3_; have HO_12 := n4_; have HB := n5_; have BK722 := n6_; have GW722 := n7_; have GE722 := n8_; clear n0_ n1_ n2_ n3_ n4_ n5_ n6_ n7_ n8_; clear hb hbox hg; have hcz142_0 : w141.cell? ⟨gb722, 0, none⟩ = some (.int .i64 0) := (blk_cell BK722.out 0).trans rfl; have hcz142_1 : w141.cell? ⟨gb722, 1, none⟩ = some (.int .i64 0) := (blk_cell BK722.out 1).trans rfl; have hfz142_0 := blk_frozen BK722.out 0; have hfz142_1 := blk_frozen BK722.out 1; obtain ⟨Ao143, co143, eo143⟩ := Kd.R_slice HO_8.out; subst eo143) | ((with_reducible refine gate_callee (f := 25) rfl ?_); refine goesL_ (some 96) rfl rfl Try.func25 (by kernel_rfl) rfl #[.slice Ao143 t704.length co143, .agg #[.int .i64 (((l1.length : Int) % 13) - 6), .int .i64 (wrap64 ((Int.tmod (wrap64 ((l1.length : Int) / 13)) 13) - 6))]] rfl qq3 ?_; (with_reducible refine (impl_PolyPlace.calls _ _ t704 (((l1.length : Int) % 13) - 6) (wrap64 ((Int.tmod (wrap64 ((l1.length : Int) / 13)) 13) - 6)) t723 true _ ?side1 ?side2 A38.out).mono ?_); (case side1 => exact qq34); (case side2 => exact qq62 HO_8.out); rintro e w144 ⟨rfl, hb⟩; refine ⟨_, rfl, ?_⟩; have n0_ := Aside0.mk (Kd.Q_below qq23 hb); have n1_ := Aside0.mk (Kd.R_below (qq5 HO_8.out) hb); have n2_ := Aside0.mk (Kd.R_below (qq5 HO_9.out) hb); have n3_ := Aside0.mk (Kd.R_below (qq5 HO_11.out) hb); have n4_ := Aside0.mk (Kd.R_below (qq5 HO_12.out) hb); have n5_ := Aside0.mk (blk_below (g := gb722) (o := .cells #[.int .i64 (((l1.length : Int) % 13) - 6), .int .i64 (wrap64 ((Int.tmod (wrap64 ((l1.length : Int) / 13)) 13) - 6))] 32 (0, 0)) qq21 hb); have n6_ := Aside0.mk (below_step (qq7 HB.out GE722.out) hb); clear HO_5; clear HO_8; clear HO_9; clear HO_11; clear HO_12; clear BK722; clear HB; have HO_5 := n0_; have HO_8 := n1_; have HO_9 := n2_; have HO_11 := n3_; have HO_12 := n4_; have BK722 := n5_; have HB := n6_; clear n0_ n1_ n2_ n3_ n4_ n5_ n6_; (try clear hb); (try clear hb2); (try clear hk); (try clear hi); have hcz145_0 : w144.cell? ⟨gb722, 0, none⟩ = some (.int .i64 (((l1.length : Int) % 13) - 6)) := (blk_cell BK722.out 0).trans rfl; have hcz145_1 : w144.cell? ⟨gb722, 1, none⟩ = some (.int .i64 (wrap64 ((Int.tmod (wrap64 ((l1.length : Int) / 13)) 13) - 6))) := (blk_cell BK722.out 1).trans rfl; have hfz145_0 := blk_frozen BK722.out 0; have hfz145_1 := blk_frozen BK722.out 1; obtain ⟨Ao146, co146, eo146⟩ := Kd.R_slice HO_9.out; subst eo146) | ((with_reducible refine gate_callee (f := 25) rfl ?_); refine goesL_ (some 102) rfl rfl Try.func25 (by kernel_rfl) rfl #[.slice Ao146 t705.length co146, .agg #[.int .i64 (((l1.length : Int) % 13) - 6), .int .i64 (wrap64 ((Int.tmod (wrap64 ((l1.length : Int) / 13)) 13) - 6))]] rfl qq3 ?_; (with_reducible refine (impl_PolyPlace.calls _ _ t705 (((l1.length : Int) % 13) - 6) (wrap64 ((Int.tmod (wrap64 ((l1.length : Int) / 13)) 13) - 6)) t725 true _ ?side1 ?side2 A39.out).mono ?_); (case side1 => exact qq11 HO_9.out); (case side2 => exact qq62 HO_9.out); rintro e w147 ⟨rfl, hb⟩; refine ⟨_, rfl, ?_⟩; have n0_ := Aside0.mk (Kd.Q_below (qq16 HO_5.out) hb); have n1_ := Aside0.mk (Kd.R_below (qq2 HO_8.out) hb); have n2_ := Aside0.mk (Kd.R_below (qq2 HO_9.out) hb); have n3_ := Aside0.mk (Kd.R_below (qq2 HO_11.out) hb); have n4_ := Aside0.mk (Kd.R_below (qq2 HO_12.out) hb); have n5_ := Aside0.mk (bbl_ BK722.out hb); have n6_ := Aside0.mk (below_step (qq7 HB.out GE722.out) hb); clear HO_5; clear HO_8; clear HO_9; clear HO_11; clear HO_12; clear BK722; clear HB; have HO_5 := n0_; have HO_8 := n1_; have HO_9 := n2_; have HO_11 := n3_; have HO_12 := n4_; have BK722 := n5_; have HB := n6_; clear n0_ n1_ n2_ n3_ n4_ n5_ n6_; (try clear hb); (try clear hb2); (try clear hk); (try clear hi); have hcz148_0 : w147.cell? ⟨gb722, 0, none⟩ = some (.int .i64 (((l1.length : Int) % 13) - 6)) := (blk_cell BK722.out 0).trans rfl; have hcz148_1 : w147.cell? ⟨gb722, 1, none⟩ = some (.int .i64 (wrap64 ((Int.tmod (wrap64 ((l1.length : Int) / 13)) 13) - 6))) := (blk_cell BK722.out 1).trans rfl; have hfz148_0 := blk_frozen BK722.out 0; have hfz148_1 := blk_frozen BK722.out 1) | ((with_reducible refine gate_callee (f := 25) rfl ?_); refine goesL_ (some 108) rfl rfl Try.func25 (by kernel_rfl) rfl #[.slice Ao11 t699.length co11, .agg #[.int .i64 (((l1.length : Int) % 13) - 6), .int .i64 (wrap64 ((Int.tmod (wrap64 ((l1.length : Int) / 13)) 13) - 6))]] rfl qq3 ?_; (with_reducible refine (impl_PolyPlace.calls _ _ t699 (((l1.length : Int) % 13) - 6) (wrap64 ((Int.tmod (wrap64 ((l1.length : Int) / 13)) 13) - 6)) t727 true _ ?side1 ?side2 A40.out).mono ?_); (case side1 => exact qq36 HO_5.out); (case side2 => exact qq81); rintro e w149 ⟨rfl, hb⟩; refine ⟨_, rfl, ?_⟩; have n0_ := Aside0.mk (Kd.Q_below (qq16 HO_5.out) hb); have n1_ := Aside0.mk (Kd.R_below (qq2 HO_8.out) hb); have n2_ := Aside0.mk (Kd.R_below (qq2 HO_9.out) hb); have n3_ := Aside0.mk (Kd.R_below (qq2 HO_11.out) hb); have n4_ := Aside0.mk (Kd.R_below (qq2 HO_12.out) hb); have n5_ := Aside0.mk (bbl_ BK722.out hb); have n6_ := Aside0.mk (below_step (qq7 HB.out GE722.out) hb); clear HO_5; clear HO_8; clear HO_9; clear HO_11; clear HO_12; clear BK722; clear HB; have HO_5 := n0_; have HO_8 := n1_; have HO_9 := n2_; have HO_11 := n3_; have HO_12 := n4_; have BK722 := n5_; have HB := n6_; clear n0_ n1_ n2_ n3_ n4_ n5_ n6_; (try clear hb); (try clear hb2); (try clear hk); (try clear hi)))
            go_ret
            exact ⟨qq10, qq7 HB.out GE722.out⟩
           ·have ck1 : decide (t723 < 1) = true := by rw [ce1]; rfl
            have ck2 : decide (t725 < 1) = true := by rw [ce2]; rfl
            have ck3 : decide ((-1) < t727) = true := by rw [ce3]; rfl
            have ck4 : decide (t727 < 1) = false := by rw [ce3]; rfl
            have ck5 : decide (0 ≤ t723) = true := by rw [ce1]; rfl
            have ck6 : decide (0 ≤ t725) = true := by rw [ce2]; rfl
            have ck7 : (t723 == (-1)) = false := by rw [ce1]; rfl
            have ck8 : (t725 == (-1)) = false := by rw [ce2]; rfl
            have ck9 : (t727 == 1) = true := by rw [ce3]; rfl
            clear ce1 ce2 ce3
            go_wp2_with (first | ((with_reducible refine gate_dst (N := 14) rfl ?_); (try (refine gate_guard (by rfl) ?_; dsimp only)); refine box_event ?hg (N := 14) ?hd (cs := #[.int .i64 0, .int .i64 0]) (t := 32) ?hr ?_; (case hd => rfl); (case hg => rfl); (case hr => exact qq22); intro gb722 hg w141 hbox hb; have n0_ := Aside0.mk (Kd.Q_below (Kd.Q_elderB (qq16 HO_5.out) gb722 (Nat.le_of_eq hg.symm)) hb); have n1_ := Aside0.mk (Kd.R_below (Kd.R_elderB (qq2 HO_8.out) gb722 (Nat.le_of_eq hg.symm)) hb); have n2_ := Aside0.mk (Kd.R_below (Kd.R_elderB (qq2 HO_9.out) gb722 (Nat.le_of_eq hg.symm)) hb); have n3_ := Aside0.mk (Kd.R_below (Kd.R_elderB (qq2 HO_11.out) gb722 (Nat.le_of_eq hg.symm)) hb); have n4_ := Aside0.mk (Kd.R_below (Kd.R_elderB (qq2 HO_12.out) gb722 (Nat.le_of_eq hg.symm)) hb); have n5_ := Aside0.mk (below_step qq1 hb); have n6_ := Aside0.mk (hbox); have n7_ := Aside0.mk ((qq35 : w.heap.size ≤ gb722)); have n8_ := Aside0.mk ((qq35 : w.heap.size ≤ gb722)); clear HO_5; clear HO_8; clear HO_9; clear HO_11; clear HO_12; clear HB; have HO_5 := n0_; have HO_8 := n1_; have HO_9 := n2_; have HO_11 := n3_; have HO_12 := n4_; have HB := n5_; have BK722 := n6_; have GW722 := n7_; have GE722 := n8_; clear n0_ n1_ n2_ n3_ n4_ n5_ n6_ n7_ n8_; clear hb hbox hg; have hcz142_0 : w141.cell? ⟨gb722, 0, none⟩ = some (.int .i64 0) := (blk_cell BK722.out 0).trans rfl; have hcz142_1 : w141.cell? ⟨gb722, 1, none⟩ = some (.int .i64 0) := (blk_cell BK722.out 1).trans rfl; have hfz142_0 := blk_frozen BK722.out 0; have hfz142_1 := blk_frozen BK722.out 1; obtain ⟨Ao143, co143, eo143⟩ := Kd.R_slice HO_8.out; subst eo143) | ((with_reducible refine gate_callee (f := 25) rfl ?_); refine goesL_ (some 96) rfl rfl Try.func25 (by kernel_rfl) rfl #[.slice Ao143 t704.length co143, .agg #[.int .i64 (((l1.length : Int) % 13) - 6), .int .i64 (wrap64 ((Int.tmod (wrap64 ((l1.length : Int) / 13)) 13) - 6))]] rfl qq3 ?_; (with_reducible refine (impl_PolyPlace.calls _ _ t704 (((l1.length : Int) % 13) - 6) (wrap64 ((Int.tmod (wrap64 ((l1.length : Int) / 13)) 13) - 6)) t723 true _ ?side1 ?side2 A38.out).mono ?_); (case side1 => exact qq34); (case side2 => exact qq62 HO_8.out); rintro e w144 ⟨rfl, hb⟩; refine ⟨_, rfl, ?_⟩; have n0_ := Aside0.mk (Kd.Q_below qq23 hb); have n1_ := Aside0.mk (Kd.R_below (qq5 HO_8.out) hb); have n2_ := Aside0.mk (Kd.R_below (qq5 HO_9.out) hb); have n3_ := Aside0.mk (Kd.R_below (qq5 HO_11.out) hb); have n4_ := Aside0.mk (Kd.R_below (qq5 HO_12.out) hb); have n5_ := Aside0.mk (blk_below (g := gb722) (o := .cells #[.int .i64 (((l1.length : Int) % 13) - 6), .int .i64 (wrap64 ((Int.tmod (wrap64 ((l1.length : Int) / 13)) 13) - 6))] 32 (0, 0)) qq21 hb); have n6_ := Aside0.mk (below_step (qq7 HB.out GE722.out) hb); clear HO_5; clear HO_8; clear HO_9; clear HO_11; clear HO_12; clear BK722; clear HB; have HO_5 := n0_; have HO_8 := n1_; have HO_9 := n2_; have HO_11 := n3_; have HO_12 := n4_; have BK722 := n5_; have HB := n6_; clear n0_ n1_ n2_ n3_ n4_ n5_ n6_; (try clear hb); (try clear hb2); (try clear hk); (try clear hi); have hcz145_0 : w144.cell? ⟨gb722, 0, none⟩ = some (.int .i64 (((l1.length : Int) % 13) - 6)) := (blk_cell BK722.out 0).trans rfl; have hcz145_1 : w144.cell? ⟨gb722, 1, none⟩ = some (.int .i64 (wrap64 ((Int.tmod (wrap64 ((l1.length : Int) / 13)) 13) - 6))) := (blk_cell BK722.out 1).trans rfl; have hfz145_0 := blk_frozen BK722.out 0; have hfz145_1 := blk_frozen BK722.out 1; obtain ⟨Ao146, co146, eo146⟩ := Kd.R_slice HO_9.out; subst eo146) | ((with_reducible refine gate_callee (f := 25) rfl ?_); refine goesL_ (some 102) rfl rfl Try.func25 (by kernel_rfl) rfl #[.slice Ao146 t705.length co146, .agg #[.int .i64 (((l1.length : Int) % 13) - 6), .int .i64 (wrap64 ((Int.tmod (wrap64 ((l1.length : Int) / 13)) 13) - 6))]] rfl qq3 ?_; (with_reducible refine (impl_PolyPlace.calls _ _ t705 (((l1.length : Int) % 13) - 6) (wrap64 ((Int.tmod (wrap64 ((l1.length : Int) / 13)) 13) - 6)) t725 true _ ?side1 ?side2 A39.out).mono ?_); (case side1 => exact qq11 HO_9.out); (case side2 => exact qq62 HO_9.out); rintro e w147 ⟨rfl, hb⟩; refine ⟨_, rfl, ?_⟩; have n0_ := Aside0.mk (Kd.Q_below (qq16 HO_5.out) hb); have n1_ := Aside0.mk (Kd.R_below (qq2 HO_8.out) hb); have n2_ := Aside0.mk (Kd.R_below (qq2 HO_9.out) hb); have n3_ := Aside0.mk (Kd.R_below (qq2 HO_11.out) hb); have n4_ := Aside0.mk (Kd.R_below (qq2 HO_12.out) hb); have n5_ := Aside0.mk (bbl_ BK722.out hb); have n6_ := Aside0.mk (below_step (qq7 HB.out GE722.out) hb); clear HO_5; clear HO_8; clear HO_9; clear HO_11; clear HO_12; clear BK722; clear HB; have HO_5 := n0_; have HO_8 := n1_; have HO_9 := n2_; have HO_11 := n3_; have HO_12 := n4_; have BK722 := n5_; have HB := n6_; clear n0_ n1_ n2_ n3_ n4_ n5_ n6_; (try clear hb); (try clear hb2); (try clear hk); (try clear hi); have hcz148_0 : w147.cell? ⟨gb722, 0, none⟩ = some (.int .i64 (((l1.length : Int) % 13) - 6)) := (blk_cell BK722.out 0).trans rfl; have hcz148_1 : w147.cell? ⟨gb722, 1, none⟩ = some (.int .i64 (wrap64 ((Int.tmod (wrap64 ((l1.length : Int) / 13)) 13) - 6))) := (blk_cell BK722.out 1).trans rfl; have hfz148_0 := blk_frozen BK722.out 0; have hfz148_1 := blk_frozen BK722.out 1) | ((with_reducible refine gate_callee (f := 25) rfl ?_); refine goesL_ (some 108) rfl rfl Try.func25 (by kernel_rfl) rfl #[.slice Ao11 t699.length co11, .agg #[.int .i64 (((l1.length : Int) % 13) - 6), .int .i64 (wrap64 ((Int.tmod (wrap64 ((l1.length : Int) / 13)) 13) - 6))]] rfl qq3 ?_; (with_reducible refine (impl_PolyPlace.calls _ _ t699 (((l1.length : Int) % 13) - 6) (wrap64 ((Int.tmod (wrap64 ((l1.length : Int) / 13)) 13) - 6)) t727 true _ ?side1 ?side2 A40.out).mono ?_); (case side1 => exact qq36 HO_5.out); (case side2 => exact qq81); rintro e w149 ⟨rfl, hb⟩; refine ⟨_, rfl, ?_⟩; have n0_ := Aside0.mk (Kd.Q_below (qq16 HO_5.out) hb); have n1_ := Aside0.mk (Kd.R_below (qq2 HO_8.out) hb); have n2_ := Aside0.mk (Kd.R_below (qq2 HO_9.out) hb); have n3_ := Aside0.mk (Kd.R_below (qq2 HO_11.out) hb); have n4_ := Aside0.mk (Kd.R_below (qq2 HO_12.out) hb); have n5_ := Aside0.mk (bbl_ BK722.out hb); have n6_ := Aside0.mk (below_step (qq7 HB.out GE722.out) hb); clear HO_5; clear HO_8; clear HO_9; clear HO_11; clear HO_12; clear BK722; clear HB; have HO_5 := n0_; have HO_8 := n1_; have HO_9 := n2_; have HO_11 := n3_; have HO_12 := n4_; have BK722 := n5_; have HB := n6_; clear n0_ n1_ n2_ n3_ n4_ n5_ n6_; (try clear hb); (try clear hb2); (try clear hk); (try clear hi)))
            go_ret
            exact ⟨qq10, qq7 HB.out GE722.out⟩
           ·have ck1 : decide (t723 < 1) = true := by rw [ce1]; rfl
            have ck2 : decide (t725 < 1) = true := by rw [ce2]; rfl
            have ck3 : decide ((-1) < t727) = true := by rw [ce3]; rfl
            have ck4 : decide (t727 < 1) = true := by rw [ce3]; rfl
            have ck5 : decide (0 ≤ t723) = true := by rw [ce1]; rfl
            have ck6 : decide (0 ≤ t725) = false := by rw [ce2]; rfl
            have ck7 : (t723 == (-1)) = false := by rw [ce1]; rfl
            have ck8 : (t725 == (-1)) = true := by rw [ce2]; rfl
            have ck9 : (t727 == 1) = false := by rw [ce3]; rfl
            clear ce1 ce2 ce3
            go_wp2_with (first | ((with_reducible refine gate_dst (N := 14) rfl ?_); (try (refine gate_guard (by rfl) ?_; dsimp only)); refine box_event ?hg (N := 14) ?hd (cs := #[.int .i64 0, .int .i64 0]) (t := 32) ?hr ?_; (case hd => rfl); (case hg => rfl); (case hr => exact qq22); intro gb722 hg w141 hbox hb; have n0_ := Aside0.mk (Kd.Q_below (Kd.Q_elderB (qq16 HO_5.out) gb722 (Nat.le_of_eq hg.symm)) hb); have n1_ := Aside0.mk (Kd.R_below (Kd.R_elderB (qq2 HO_8.out) gb722 (Nat.le_of_eq hg.symm)) hb); have n2_ := Aside0.mk (Kd.R_below (Kd.R_elderB (qq2 HO_9.out) gb722 (Nat.le_of_eq hg.symm)) hb); have n3_ := Aside0.mk (Kd.R_below (Kd.R_elderB (qq2 HO_11.out) gb722 (Nat.le_of_eq hg.symm)) hb); have n4_ := Aside0.mk (Kd.R_below (Kd.R_elderB (qq2 HO_12.out) gb722 (Nat.le_of_eq hg.symm)) hb); have n5_ := Aside0.mk (below_step qq1 hb); have n6_ := Aside0.mk (hbox); have n7_ := Aside0.mk ((qq35 : w.heap.size ≤ gb722)); have n8_ := Aside0.mk ((qq35 : w.heap.size ≤ gb722)); clear HO_5; clear HO_8; clear HO_9; clear HO_11; clear HO_12; clear HB; have HO_5 := n0_; have HO_8 := n1_; have HO_9 := n2_; have HO_11 := n3_; have HO_12 := n4_; have HB := n5_; have BK722 := n6_; have GW722 := n7_; have GE722 := n8_; clear n0_ n1_ n2_ n3_ n4_ n5_ n6_ n7_ n8_; clear hb hbox hg; have hcz142_0 : w141.cell? ⟨gb722, 0, none⟩ = some (.int .i64 0) := (blk_cell BK722.out 0).trans rfl; have hcz142_1 : w141.cell? ⟨gb722, 1, none⟩ = some (.int .i64 0) := (blk_cell BK722.out 1).trans rfl; have hfz142_0 := blk_frozen BK722.out 0; have hfz142_1 := blk_frozen BK722.out 1; obtain ⟨Ao143, co143, eo143⟩ := Kd.R_slice HO_8.out; subst eo143) | ((with_reducible refine gate_callee (f := 25) rfl ?_); refine goesL_ (some 96) rfl rfl Try.func25 (by kernel_rfl) rfl #[.slice Ao143 t704.length co143, .agg #[.int .i64 (((l1.length : Int) % 13) - 6), .int .i64 (wrap64 ((Int.tmod (wrap64 ((l1.length : Int) / 13)) 13) - 6))]] rfl qq3 ?_; (with_reducible refine (impl_PolyPlace.calls _ _ t704 (((l1.length : Int) % 13) - 6) (wrap64 ((Int.tmod (wrap64 ((l1.length : Int) / 13)) 13) - 6)) t723 true _ ?side1 ?side2 A38.out).mono ?_); (case side1 => exact qq34); (case side2 => exact qq62 HO_8.out); rintro e w144 ⟨rfl, hb⟩; refine ⟨_, rfl, ?_⟩; have n0_ := Aside0.mk (Kd.Q_below qq23 hb); have n1_ := Aside0.mk (Kd.R_below (qq5 HO_8.out) hb); have n2_ := Aside0.mk (Kd.R_below (qq5 HO_9.out) hb); have n3_ := Aside0.mk (Kd.R_below (qq5 HO_11.out) hb); have n4_ := Aside0.mk (Kd.R_below (qq5 HO_12.out) hb); have n5_ := Aside0.mk (blk_below (g := gb722) (o := .cells #[.int .i64 (((l1.length : Int) % 13) - 6), .int .i64 (wrap64 ((Int.tmod (wrap64 ((l1.length : Int) / 13)) 13) - 6))] 32 (0, 0)) qq21 hb); have n6_ := Aside0.mk (below_step (qq7 HB.out GE722.out) hb); clear HO_5; clear HO_8; clear HO_9; clear HO_11; clear HO_12; clear BK722; clear HB; have HO_5 := n0_; have HO_8 := n1_; have HO_9 := n2_; have HO_11 := n3_; have HO_12 := n4_; have BK722 := n5_; have HB := n6_; clear n0_ n1_ n2_ n3_ n4_ n5_ n6_; (try clear hb); (try clear hb2); (try clear hk); (try clear hi); have hcz145_0 : w144.cell? ⟨gb722, 0, none⟩ = some (.int .i64 (((l1.length : Int) % 13) - 6)) := (blk_cell BK722.out 0).trans rfl; have hcz145_1 : w144.cell? ⟨gb722, 1, none⟩ = some (.int .i64 (wrap64 ((Int.tmod (wrap64 ((l1.length : Int) / 13)) 13) - 6))) := (blk_cell BK722.out 1).trans rfl; have hfz145_0 := blk_frozen BK722.out 0; have hfz145_1 := blk_frozen BK722.out 1; obtain ⟨Ao146, co146, eo146⟩ := Kd.R_slice HO_9.out; subst eo146) | ((with_reducible refine gate_callee (f := 25) rfl ?_); refine goesL_ (some 102) rfl rfl Try.func25 (by kernel_rfl) rfl #[.slice Ao146 t705.length co146, .agg #[.int .i64 (((l1.length : Int) % 13) - 6), .int .i64 (wrap64 ((Int.tmod (wrap64 ((l1.length : Int) / 13)) 13) - 6))]] rfl qq3 ?_; (with_reducible refine (impl_PolyPlace.calls _ _ t705 (((l1.length : Int) % 13) - 6) (wrap64 ((Int.tmod (wrap64 ((l1.length : Int) / 13)) 13) - 6)) t725 true _ ?side1 ?side2 A39.out).mono ?_); (case side1 => exact qq11 HO_9.out); (case side2 => exact qq62 HO_9.out); rintro e w147 ⟨rfl, hb⟩; refine ⟨_, rfl, ?_⟩; have n0_ := Aside0.mk (Kd.Q_below (qq16 HO_5.out) hb); have n1_ := Aside0.mk (Kd.R_below (qq2 HO_8.out) hb); have n2_ := Aside0.mk (Kd.R_below (qq2 HO_9.out) hb); have n3_ := Aside0.mk (Kd.R_below (qq2 HO_11.out) hb); have n4_ := Aside0.mk (Kd.R_below (qq2 HO_12.out) hb); have n5_ := Aside0.mk (bbl_ BK722.out hb); have n6_ := Aside0.mk (below_step (qq7 HB.out GE722.out) hb); clear HO_5; clear HO_8; clear HO_9; clear HO_11; clear HO_12; clear BK722; clear HB; have HO_5 := n0_; have HO_8 := n1_; have HO_9 := n2_; have HO_11 := n3_; have HO_12 := n4_; have BK722 := n5_; have HB := n6_; clear n0_ n1_ n2_ n3_ n4_ n5_ n6_; (try clear hb); (try clear hb2); (try clear hk); (try clear hi); have hcz148_0 : w147.cell? ⟨gb722, 0, none⟩ = some (.int .i64 (((l1.length : Int) % 13) - 6)) := (blk_cell BK722.out 0).trans rfl; have hcz148_1 : w147.cell? ⟨gb722, 1, none⟩ = some (.int .i64 (wrap64 ((Int.tmod (wrap64 ((l1.length : Int) / 13)) 13) - 6))) := (blk_cell BK722.out 1).trans rfl; have hfz148_0 := blk_frozen BK722.out 0; have hfz148_1 := blk_frozen BK722.out 1) | ((with_reducible refine gate_callee (f := 25) rfl ?_); refine goesL_ (some 108) rfl rfl Try.func25 (by kernel_rfl) rfl #[.slice Ao11 t699.length co11, .agg #[.int .i64 (((l1.length : Int) % 13) - 6), .int .i64 (wrap64 ((Int.tmod (wrap64 ((l1.length : Int) / 13)) 13) - 6))]] rfl qq3 ?_; (with_reducible refine (impl_PolyPlace.calls _ _ t699 (((l1.length : Int) % 13) - 6) (wrap64 ((Int.tmod (wrap64 ((l1.length : Int) / 13)) 13) - 6)) t727 true _ ?side1 ?side2 A40.out).mono ?_); (case side1 => exact qq36 HO_5.out); (case side2 => exact qq81); rintro e w149 ⟨rfl, hb⟩; refine ⟨_, rfl, ?_⟩; have n0_ := Aside0.mk (Kd.Q_below (qq16 HO_5.out) hb); have n1_ := Aside0.mk (Kd.R_below (qq2 HO_8.out) hb); have n2_ := Aside0.mk (Kd.R_below (qq2 HO_9.out) hb); have n3_ := Aside0.mk (Kd.R_below (qq2 HO_11.out) hb); have n4_ := Aside0.mk (Kd.R_below (qq2 HO_12.out) hb); have n5_ := Aside0.mk (bbl_ BK722.out hb); have n6_ := Aside0.mk (below_step (qq7 HB.out GE722.out) hb); clear HO_5; clear HO_8; clear HO_9; clear HO_11; clear HO_12; clear BK722; clear HB; have HO_5 := n0_; have HO_8 := n1_; have HO_9 := n2_; have HO_11 := n3_; have HO_12 := n4_; have BK722 := n5_; have HB := n6_; clear n0_ n1_ n2_ n3_ n4_ n5_ n6_; (try clear hb); (try clear hb2); (try clear hk); (try clear hi)))
            go_ret
            exact ⟨qq10, qq7 HB.out GE722.out⟩
           ·have ck1 : decide (t723 < 1) = true := by rw [ce1]; rfl
            have ck2 : decide (t725 < 1) = true := by rw [ce2]; rfl
            have ck3 : decide ((-1) < t727) = true := by rw [ce3]; rfl
            have ck4 : decide (t727 < 1) = true := by rw [ce3]; rfl
            have ck5 : decide (0 ≤ t723) = false := by rw [ce1]; rfl
            have ck6 : decide (0 ≤ t725) = true := by rw [ce2]; rfl
            have ck7 : (t723 == (-1)) = true := by rw [ce1]; rfl
            have ck8 : (t725 == (-1)) = false := by rw [ce2]; rfl
            have ck9 : (t727 == 1) = false := by rw [ce3]; rfl
            clear ce1 ce2 ce3
            go_wp2_with (first | ((with_reducible refine gate_dst (N := 14) rfl ?_); (try (refine gate_guard (by rfl) ?_; dsimp only)); refine box_event ?hg (N := 14) ?hd (cs := #[.int .i64 0, .int .i64 0]) (t := 32) ?hr ?_; (case hd => rfl); (case hg => rfl); (case hr => exact qq22); intro gb722 hg w141 hbox hb; have n0_ := Aside0.mk (Kd.Q_below (Kd.Q_elderB (qq16 HO_5.out) gb722 (Nat.le_of_eq hg.symm)) hb); have n1_ := Aside0.mk (Kd.R_below (Kd.R_elderB (qq2 HO_8.out) gb722 (Nat.le_of_eq hg.symm)) hb); have n2_ := Aside0.mk (Kd.R_below (Kd.R_elderB (qq2 HO_9.out) gb722 (Nat.le_of_eq hg.symm)) hb); have n3_ := Aside0.mk (Kd.R_below (Kd.R_elderB (qq2 HO_11.out) gb722 (Nat.le_of_eq hg.symm)) hb); have n4_ := Aside0.mk (Kd.R_below (Kd.R_elderB (qq2 HO_12.out) gb722 (Nat.le_of_eq hg.symm)) hb); have n5_ := Aside0.mk (below_step qq1 hb); have n6_ := Aside0.mk (hbox); have n7_ := Aside0.mk ((qq35 : w.heap.size ≤ gb722)); have n8_ := Aside0.mk ((qq35 : w.heap.size ≤ gb722)); clear HO_5; clear HO_8; clear HO_9; clear HO_11; clear HO_12; clear HB; have HO_5 := n0_; have HO_8 := n1_; have HO_9 := n2_; have HO_11 := n3_; have HO_12 := n4_; have HB := n5_; have BK722 := n6_; have GW722 := n7_; have GE722 := n8_; clear n0_ n1_ n2_ n3_ n4_ n5_ n6_ n7_ n8_; clear hb hbox hg; have hcz142_0 : w141.cell? ⟨gb722, 0, none⟩ = some (.int .i64 0) := (blk_cell BK722.out 0).trans rfl; have hcz142_1 : w141.cell? ⟨gb722, 1, none⟩ = some (.int .i64 0) := (blk_cell BK722.out 1).trans rfl; have hfz142_0 := blk_frozen BK722.out 0; have hfz142_1 := blk_frozen BK722.out 1; obtain ⟨Ao143, co143, eo143⟩ := Kd.R_slice HO_8.out; subst eo143) | ((with_reducible refine gate_callee (f := 25) rfl ?_); refine goesL_ (some 96) rfl rfl Try.func25 (by kernel_rfl) rfl #[.slice Ao143 t704.length co143, .agg #[.int .i64 (((l1.length : Int) % 13) - 6), .int .i64 (wrap64 ((Int.tmod (wrap64 ((l1.length : Int) / 13)) 13) - 6))]] rfl qq3 ?_; (with_reducible refine (impl_PolyPlace.calls _ _ t704 (((l1.length : Int) % 13) - 6) (wrap64 ((Int.tmod (wrap64 ((l1.length : Int) / 13)) 13) - 6)) t723 true _ ?side1 ?side2 A38.out).mono ?_); (case side1 => exact qq34); (case side2 => exact qq62 HO_8.out); rintro e w144 ⟨rfl, hb⟩; refine ⟨_, rfl, ?_⟩; have n0_ := Aside0.mk (Kd.Q_below qq23 hb); have n1_ := Aside0.mk (Kd.R_below (qq5 HO_8.out) hb); have n2_ := Aside0.mk (Kd.R_below (qq5 HO_9.out) hb); have n3_ := Aside0.mk (Kd.R_below (qq5 HO_11.out) hb); have n4_ := Aside0.mk (Kd.R_below (qq5 HO_12.out) hb); have n5_ := Aside0.mk (blk_below (g := gb722) (o := .cells #[.int .i64 (((l1.length : Int) % 13) - 6), .int .i64 (wrap64 ((Int.tmod (wrap64 ((l1.length : Int) / 13)) 13) - 6))] 32 (0, 0)) qq21 hb); have n6_ := Aside0.mk (below_step (qq7 HB.out GE722.out) hb); clear HO_5; clear HO_8; clear HO_9; clear HO_11; clear HO_12; clear BK722; clear HB; have HO_5 := n0_; have HO_8 := n1_; have HO_9 := n2_; have HO_11 := n3_; have HO_12 := n4_; have BK722 := n5_; have HB := n6_; clear n0_ n1_ n2_ n3_ n4_ n5_ n6_; (try clear hb); (try clear hb2); (try clear hk); (try clear hi); have hcz145_0 : w144.cell? ⟨gb722, 0, none⟩ = some (.int .i64 (((l1.length : Int) % 13) - 6)) := (blk_cell BK722.out 0).trans rfl; have hcz145_1 : w144.cell? ⟨gb722, 1, none⟩ = some (.int .i64 (wrap64 ((Int.tmod (wrap64 ((l1.length : Int) / 13)) 13) - 6))) := (blk_cell BK722.out 1).trans rfl; have hfz145_0 := blk_frozen BK722.out 0; have hfz145_1 := blk_frozen BK722.out 1; obtain ⟨Ao146, co146, eo146⟩ := Kd.R_slice HO_9.out; subst eo146) | ((with_reducible refine gate_callee (f := 25) rfl ?_); refine goesL_ (some 102) rfl rfl Try.func25 (by kernel_rfl) rfl #[.slice Ao146 t705.length co146, .agg #[.int .i64 (((l1.length : Int) % 13) - 6), .int .i64 (wrap64 ((Int.tmod (wrap64 ((l1.length : Int) / 13)) 13) - 6))]] rfl qq3 ?_; (with_reducible refine (impl_PolyPlace.calls _ _ t705 (((l1.length : Int) % 13) - 6) (wrap64 ((Int.tmod (wrap64 ((l1.length : Int) / 13)) 13) - 6)) t725 true _ ?side1 ?side2 A39.out).mono ?_); (case side1 => exact qq11 HO_9.out); (case side2 => exact qq62 HO_9.out); rintro e w147 ⟨rfl, hb⟩; refine ⟨_, rfl, ?_⟩; have n0_ := Aside0.mk (Kd.Q_below (qq16 HO_5.out) hb); have n1_ := Aside0.mk (Kd.R_below (qq2 HO_8.out) hb); have n2_ := Aside0.mk (Kd.R_below (qq2 HO_9.out) hb); have n3_ := Aside0.mk (Kd.R_below (qq2 HO_11.out) hb); have n4_ := Aside0.mk (Kd.R_below (qq2 HO_12.out) hb); have n5_ := Aside0.mk (bbl_ BK722.out hb); have n6_ := Aside0.mk (below_step (qq7 HB.out GE722.out) hb); clear HO_5; clear HO_8; clear HO_9; clear HO_11; clear HO_12; clear BK722; clear HB; have HO_5 := n0_; have HO_8 := n1_; have HO_9 := n2_; have HO_11 := n3_; have HO_12 := n4_; have BK722 := n5_; have HB := n6_; clear n0_ n1_ n2_ n3_ n4_ n5_ n6_; (try clear hb); (try clear hb2); (try clear hk); (try clear hi); have hcz148_0 : w147.cell? ⟨gb722, 0, none⟩ = some (.int .i64 (((l1.length : Int) % 13) - 6)) := (blk_cell BK722.out 0).trans rfl; have hcz148_1 : w147.cell? ⟨gb722, 1, none⟩ = some (.int .i64 (wrap64 ((Int.tmod (wrap64 ((l1.length : Int) / 13)) 13) - 6))) := (blk_cell BK722.out 1).trans rfl; have hfz148_0 := blk_frozen BK722.out 0; have hfz148_1 := blk_frozen BK722.out 1) | ((with_reducible refine gate_callee (f := 25) rfl ?_); refine goesL_ (some 108) rfl rfl Try.func25 (by kernel_rfl) rfl #[.slice Ao11 t699.length co11, .agg #[.int .i64 (((l1.length : Int) % 13) - 6), .int .i64 (wrap64 ((Int.tmod (wrap64 ((l1.length : Int) / 13)) 13) - 6))]] rfl qq3 ?_; (with_reducible refine (impl_PolyPlace.calls _ _ t699 (((l1.length : Int) % 13) - 6) (wrap64 ((Int.tmod (wrap64 ((l1.length : Int) / 13)) 13) - 6)) t727 true _ ?side1 ?side2 A40.out).mono ?_); (case side1 => exact qq36 HO_5.out); (case side2 => exact qq81); rintro e w149 ⟨rfl, hb⟩; refine ⟨_, rfl, ?_⟩; have n0_ := Aside0.mk (Kd.Q_below (qq16 HO_5.out) hb); have n1_ := Aside0.mk (Kd.R_below (qq2 HO_8.out) hb); have n2_ := Aside0.mk (Kd.R_below (qq2 HO_9.out) hb); have n3_ := Aside0.mk (Kd.R_below (qq2 HO_11.out) hb); have n4_ := Aside0.mk (Kd.R_below (qq2 HO_12.out) hb); have n5_ := Aside0.mk (bbl_ BK722.out hb); have n6_ := Aside0.mk (below_step (qq7 HB.out GE722.out) hb); clear HO_5; clear HO_8; clear HO_9; clear HO_11; clear HO_12; clear BK722; clear HB; have HO_5 := n0_; have HO_8 := n1_; have HO_9 := n2_; have HO_11 := n3_; have HO_12 := n4_; have BK722 := n5_; have HB := n6_; clear n0_ n1_ n2_ n3_ n4_ n5_ n6_; (try clear hb); (try clear hb2); (try clear hk); (try clear hi)))
            go_ret
            exact ⟨qq10, qq7 HB.out GE722.out⟩
           ·have ck1 : decide (t723 < 1) = true := by rw [ce1]; rfl
            have ck2 : decide (t725 < 1) = true := by rw [ce2]; rfl
            have ck3 : decide ((-1) < t727) = false := by rw [ce3]; rfl
            have ck4 : decide (t727 < 1) = true := by rw [ce3]; rfl
            have ck5 : decide (0 ≤ t723) = false := by rw [ce1]; rfl
            have ck6 : decide (0 ≤ t725) = false := by rw [ce2]; rfl
            have ck7 : (t723 == (-1)) = true := by rw [ce1]; rfl
            have ck8 : (t725 == (-1)) = true := by rw [ce2]; rfl
            have ck9 : (t727 == 1) = false := by rw [ce3]; rfl
            clear ce1 ce2 ce3
            go_wp2_with (first | ((with_reducible refine gate_dst (N := 14) rfl ?_); (try (refine gate_guard (by rfl) ?_; dsimp only)); refine box_event ?hg (N := 14) ?hd (cs := #[.int .i64 0, .int .i64 0]) (t := 32) ?hr ?_; (case hd => rfl); (case hg => rfl); (case hr => exact qq22); intro gb722 hg w141 hbox hb; have n0_ := Aside0.mk (Kd.Q_below (Kd.Q_elderB (qq16 HO_5.out) gb722 (Nat.le_of_eq hg.symm)) hb); have n1_ := Aside0.mk (Kd.R_below (Kd.R_elderB (qq2 HO_8.out) gb722 (Nat.le_of_eq hg.symm)) hb); have n2_ := Aside0.mk (Kd.R_below (Kd.R_elderB (qq2 HO_9.out) gb722 (Nat.le_of_eq hg.symm)) hb); have n3_ := Aside0.mk (Kd.R_below (Kd.R_elderB (qq2 HO_11.out) gb722 (Nat.le_of_eq hg.symm)) hb); have n4_ := Aside0.mk (Kd.R_below (Kd.R_elderB (qq2 HO_12.out) gb722 (Nat.le_of_eq hg.symm)) hb); have n5_ := Aside0.mk (below_step qq1 hb); have n6_ := Aside0.mk (hbox); have n7_ := Aside0.mk ((qq35 : w.heap.size ≤ gb722)); have n8_ := Aside0.mk ((qq35 : w.heap.size ≤ gb722)); clear HO_5; clear HO_8; clear HO_9; clear HO_11; clear HO_12; clear HB; have HO_5 := n0_; have HO_8 := n1_; have HO_9 := n2_; have HO_11 := n3_; have HO_12 := n4_; have HB := n5_; have BK722 := n6_; have GW722 := n7_; have GE722 := n8_; clear n0_ n1_ n2_ n3_ n4_ n5_ n6_ n7_ n8_; clear hb hbox hg; have hcz142_0 : w141.cell? ⟨gb722, 0, none⟩ = some (.int .i64 0) := (blk_cell BK722.out 0).trans rfl; have hcz142_1 : w141.cell? ⟨gb722, 1, none⟩ = some (.int .i64 0) := (blk_cell BK722.out 1).trans rfl; have hfz142_0 := blk_frozen BK722.out 0; have hfz142_1 := blk_frozen BK722.out 1; obtain ⟨Ao143, co143, eo143⟩ := Kd.R_slice HO_8.out; subst eo143) | ((with_reducible refine gate_callee (f := 25) rfl ?_); refine goesL_ (some 96) rfl rfl Try.func25 (by kernel_rfl) rfl #[.slice Ao143 t704.length co143, .agg #[.int .i64 (((l1.length : Int) % 13) - 6), .int .i64 (wrap64 ((Int.tmod (wrap64 ((l1.length : Int) / 13)) 13) - 6))]] rfl qq3 ?_; (with_reducible refine (impl_PolyPlace.calls _ _ t704 (((l1.length : Int) % 13) - 6) (wrap64 ((Int.tmod (wrap64 ((l1.length : Int) / 13)) 13) - 6)) t723 true _ ?side1 ?side2 A38.out).mono ?_); (case side1 => exact qq34); (case side2 => exact qq62 HO_8.out); rintro e w144 ⟨rfl, hb⟩; refine ⟨_, rfl, ?_⟩; have n0_ := Aside0.mk (Kd.Q_below qq23 hb); have n1_ := Aside0.mk (Kd.R_below (qq5 HO_8.out) hb); have n2_ := Aside0.mk (Kd.R_below (qq5 HO_9.out) hb); have n3_ := Aside0.mk (Kd.R_below (qq5 HO_11.out) hb); have n4_ := Aside0.mk (Kd.R_below (qq5 HO_12.out) hb); have n5_ := Aside0.mk (blk_below (g := gb722) (o := .cells #[.int .i64 (((l1.length : Int) % 13) - 6), .int .i64 (wrap64 ((Int.tmod (wrap64 ((l1.length : Int) / 13)) 13) - 6))] 32 (0, 0)) qq21 hb); have n6_ := Aside0.mk (below_step (qq7 HB.out GE722.out) hb); clear HO_5; clear HO_8; clear HO_9; clear HO_11; clear HO_12; clear BK722; clear HB; have HO_5 := n0_; have HO_8 := n1_; have HO_9 := n2_; have HO_11 := n3_; have HO_12 := n4_; have BK722 := n5_; have HB := n6_; clear n0_ n1_ n2_ n3_ n4_ n5_ n6_; (try clear hb); (try clear hb2); (try clear hk); (try clear hi); have hcz145_0 : w144.cell? ⟨gb722, 0, none⟩ = some (.int .i64 (((l1.length : Int) % 13) - 6)) := (blk_cell BK722.out 0).trans rfl; have hcz145_1 : w144.cell? ⟨gb722, 1, none⟩ = some (.int .i64 (wrap64 ((Int.tmod (wrap64 ((l1.length : Int) / 13)) 13) - 6))) := (blk_cell BK722.out 1).trans rfl; have hfz145_0 := blk_frozen BK722.out 0; have hfz145_1 := blk_frozen BK722.out 1; obtain ⟨Ao146, co146, eo146⟩ := Kd.R_slice HO_9.out; subst eo146) | ((with_reducible refine gate_callee (f := 25) rfl ?_); refine goesL_ (some 102) rfl rfl Try.func25 (by kernel_rfl) rfl #[.slice Ao146 t705.length co146, .agg #[.int .i64 (((l1.length : Int) % 13) - 6), .int .i64 (wrap64 ((Int.tmod (wrap64 ((l1.length : Int) / 13)) 13) - 6))]] rfl qq3 ?_; (with_reducible refine (impl_PolyPlace.calls _ _ t705 (((l1.length : Int) % 13) - 6) (wrap64 ((Int.tmod (wrap64 ((l1.length : Int) / 13)) 13) - 6)) t725 true _ ?side1 ?side2 A39.out).mono ?_); (case side1 => exact qq11 HO_9.out); (case side2 => exact qq62 HO_9.out); rintro e w147 ⟨rfl, hb⟩; refine ⟨_, rfl, ?_⟩; have n0_ := Aside0.mk (Kd.Q_below (qq16 HO_5.out) hb); have n1_ := Aside0.mk (Kd.R_below (qq2 HO_8.out) hb); have n2_ := Aside0.mk (Kd.R_below (qq2 HO_9.out) hb); have n3_ := Aside0.mk (Kd.R_below (qq2 HO_11.out) hb); have n4_ := Aside0.mk (Kd.R_below (qq2 HO_12.out) hb); have n5_ := Aside0.mk (bbl_ BK722.out hb); have n6_ := Aside0.mk (below_step (qq7 HB.out GE722.out) hb); clear HO_5; clear HO_8; clear HO_9; clear HO_11; clear HO_12; clear BK722; clear HB; have HO_5 := n0_; have HO_8 := n1_; have HO_9 := n2_; have HO_11 := n3_; have HO_12 := n4_; have BK722 := n5_; have HB := n6_; clear n0_ n1_ n2_ n3_ n4_ n5_ n6_; (try clear hb); (try clear hb2); (try clear hk); (try clear hi); have hcz148_0 : w147.cell? ⟨gb722, 0, none⟩ = some (.int .i64 (((l1.length : Int) % 13) - 6)) := (blk_cell BK722.out 0).trans rfl; have hcz148_1 : w147.cell? ⟨gb722, 1, none⟩ = some (.int .i64 (wrap64 ((Int.tmod (wrap64 ((l1.length : Int) / 13)) 13) - 6))) := (blk_cell BK722.out 1).trans rfl; have hfz148_0 := blk_frozen BK722.out 0; have hfz148_1 := blk_frozen BK722.out 1) | ((with_reducible refine gate_callee (f := 25) rfl ?_); refine goesL_ (some 108) rfl rfl Try.func25 (by kernel_rfl) rfl #[.slice Ao11 t699.length co11, .agg #[.int .i64 (((l1.length : Int) % 13) - 6), .int .i64 (wrap64 ((Int.tmod (wrap64 ((l1.length : Int) / 13)) 13) - 6))]] rfl qq3 ?_; (with_reducible refine (impl_PolyPlace.calls _ _ t699 (((l1.length : Int) % 13) - 6) (wrap64 ((Int.tmod (wrap64 ((l1.length : Int) / 13)) 13) - 6)) t727 true _ ?side1 ?side2 A40.out).mono ?_); (case side1 => exact qq36 HO_5.out); (case side2 => exact qq81); rintro e w149 ⟨rfl, hb⟩; refine ⟨_, rfl, ?_⟩; have n0_ := Aside0.mk (Kd.Q_below (qq16 HO_5.out) hb); have n1_ := Aside0.mk (Kd.R_below (qq2 HO_8.out) hb); have n2_ := Aside0.mk (Kd.R_below (qq2 HO_9.out) hb); have n3_ := Aside0.mk (Kd.R_below (qq2 HO_11.out) hb); have n4_ := Aside0.mk (Kd.R_below (qq2 HO_12.out) hb); have n5_ := Aside0.mk (bbl_ BK722.out hb); have n6_ := Aside0.mk (below_step (qq7 HB.out GE722.out) hb); clear HO_5; clear HO_8; clear HO_9; clear HO_11; clear HO_12; clear BK722; clear HB; have HO_5 := n0_; have HO_8 := n1_; have HO_9 := n2_; have HO_11 := n3_; have HO_12 := n4_; have BK722 := n5_; have HB := n6_; clear n0_ n1_ n2_ n3_ n4_ n5_ n6_; (try clear hb); (try clear hb2); (try clear hk); (try clear hi)))
            go_ret
            exact ⟨qq10, qq7 HB.out GE722.out⟩
           ·have ck1 : decide (t723 < 1) = false := by rw [ce1]; rfl
            have ck2 : decide (t725 < 1) = true := by rw [ce2]; rfl
            have ck3 : decide ((-1) < t727) = true := by rw [ce3]; rfl
            have ck4 : decide (t727 < 1) = false := by rw [ce3]; rfl
            have ck5 : decide (0 ≤ t723) = true := by rw [ce1]; rfl
            have ck6 : decide (0 ≤ t725) = false := by rw [ce2]; rfl
            have ck7 : (t723 == (-1)) = false := by rw [ce1]; rfl
            have ck8 : (t725 == (-1)) = true := by rw [ce2]; rfl
            have ck9 : (t727 == 1) = true := by rw [ce3]; rfl
            clear ce1 ce2 ce3
            go_wp2_with (first | ((with_reducible refine gate_dst (N := 14) rfl ?_); (try (refine gate_guard (by rfl) ?_; dsimp only)); refine box_event ?hg (N := 14) ?hd (cs := #[.int .i64 0, .int .i64 0]) (t := 32) ?hr ?_; (case hd => rfl); (case hg => rfl); (case hr => exact qq22); intro gb722 hg w141 hbox hb; have n0_ := Aside0.mk (Kd.Q_below (Kd.Q_elderB (qq16 HO_5.out) gb722 (Nat.le_of_eq hg.symm)) hb); have n1_ := Aside0.mk (Kd.R_below (Kd.R_elderB (qq2 HO_8.out) gb722 (Nat.le_of_eq hg.symm)) hb); have n2_ := Aside0.mk (Kd.R_below (Kd.R_elderB (qq2 HO_9.out) gb722 (Nat.le_of_eq hg.symm)) hb); have n3_ := Aside0.mk (Kd.R_below (Kd.R_elderB (qq2 HO_11.out) gb722 (Nat.le_of_eq hg.symm)) hb); have n4_ := Aside0.mk (Kd.R_below (Kd.R_elderB (qq2 HO_12.out) gb722 (Nat.le_of_eq hg.symm)) hb); have n5_ := Aside0.mk (below_step qq1 hb); have n6_ := Aside0.mk (hbox); have n7_ := Aside0.mk ((qq35 : w.heap.size ≤ gb722)); have n8_ := Aside0.mk ((qq35 : w.heap.size ≤ gb722)); clear HO_5; clear HO_8; clear HO_9; clear HO_11; clear HO_12; clear HB; have HO_5 := n0_; have HO_8 := n1_; have HO_9 := n2_; have HO_11 := n3_; have HO_12 := n4_; have HB := n5_; have BK722 := n6_; have GW722 := n7_; have GE722 := n8_; clear n0_ n1_ n2_ n3_ n4_ n5_ n6_ n7_ n8_; clear hb hbox hg; have hcz142_0 : w141.cell? ⟨gb722, 0, none⟩ = some (.int .i64 0) := (blk_cell BK722.out 0).trans rfl; have hcz142_1 : w141.cell? ⟨gb722, 1, none⟩ = some (.int .i64 0) := (blk_cell BK722.out 1).trans rfl; have hfz142_0 := blk_frozen BK722.out 0; have hfz142_1 := blk_frozen BK722.out 1; obtain ⟨Ao143, co143, eo143⟩ := Kd.R_slice HO_8.out; subst eo143) | ((with_reducible refine gate_callee (f := 25) rfl ?_); refine goesL_ (some 96) rfl rfl Try.func25 (by kernel_rfl) rfl #[.slice Ao143 t704.length co143, .agg #[.int .i64 (((l1.length : Int) % 13) - 6), .int .i64 (wrap64 ((Int.tmod (wrap64 ((l1.length : Int) / 13)) 13) - 6))]] rfl qq3 ?_; (with_reducible refine (impl_PolyPlace.calls _ _ t704 (((l1.length : Int) % 13) - 6) (wrap64 ((Int.tmod (wrap64 ((l1.length : Int) / 13)) 13) - 6)) t723 true _ ?side1 ?side2 A38.out).mono ?_); (case side1 => exact qq34); (case side2 => exact qq62 HO_8.out); rintro e w144 ⟨rfl, hb⟩; refine ⟨_, rfl, ?_⟩; have n0_ := Aside0.mk (Kd.Q_below qq23 hb); have n1_ := Aside0.mk (Kd.R_below (qq5 HO_8.out) hb); have n2_ := Aside0.mk (Kd.R_below (qq5 HO_9.out) hb); have n3_ := Aside0.mk (Kd.R_below (qq5 HO_11.out) hb); have n4_ := Aside0.mk (Kd.R_below (qq5 HO_12.out) hb); have n5_ := Aside0.mk (blk_below (g := gb722) (o := .cells #[.int .i64 (((l1.length : Int) % 13) - 6), .int .i64 (wrap64 ((Int.tmod (wrap64 ((l1.length : Int) / 13)) 13) - 6))] 32 (0, 0)) qq21 hb); have n6_ := Aside0.mk (below_step (qq7 HB.out GE722.out) hb); clear HO_5; clear HO_8; clear HO_9; clear HO_11; clear HO_12; clear BK722; clear HB; have HO_5 := n0_; have HO_8 := n1_; have HO_9 := n2_; have HO_11 := n3_; have HO_12 := n4_; have BK722 := n5_; have HB := n6_; clear n0_ n1_ n2_ n3_ n4_ n5_ n6_; (try clear hb); (try clear hb2); (try clear hk); (try clear hi); have hcz145_0 : w144.cell? ⟨gb722, 0, none⟩ = some (.int .i64 (((l1.length : Int) % 13) - 6)) := (blk_cell BK722.out 0).trans rfl; have hcz145_1 : w144.cell? ⟨gb722, 1, none⟩ = some (.int .i64 (wrap64 ((Int.tmod (wrap64 ((l1.length : Int) / 13)) 13) - 6))) := (blk_cell BK722.out 1).trans rfl; have hfz145_0 := blk_frozen BK722.out 0; have hfz145_1 := blk_frozen BK722.out 1; obtain ⟨Ao146, co146, eo146⟩ := Kd.R_slice HO_9.out; subst eo146) | ((with_reducible refine gate_callee (f := 25) rfl ?_); refine goesL_ (some 102) rfl rfl Try.func25 (by kernel_rfl) rfl #[.slice Ao146 t705.length co146, .agg #[.int .i64 (((l1.length : Int) % 13) - 6), .int .i64 (wrap64 ((Int.tmod (wrap64 ((l1.length : Int) / 13)) 13) - 6))]] rfl qq3 ?_; (with_reducible refine (impl_PolyPlace.calls _ _ t705 (((l1.length : Int) % 13) - 6) (wrap64 ((Int.tmod (wrap64 ((l1.length : Int) / 13)) 13) - 6)) t725 true _ ?side1 ?side2 A39.out).mono ?_); (case side1 => exact qq11 HO_9.out); (case side2 => exact qq62 HO_9.out); rintro e w147 ⟨rfl, hb⟩; refine ⟨_, rfl, ?_⟩; have n0_ := Aside0.mk (Kd.Q_below (qq16 HO_5.out) hb); have n1_ := Aside0.mk (Kd.R_below (qq2 HO_8.out) hb); have n2_ := Aside0.mk (Kd.R_below (qq2 HO_9.out) hb); have n3_ := Aside0.mk (Kd.R_below (qq2 HO_11.out) hb); have n4_ := Aside0.mk (Kd.R_below (qq2 HO_12.out) hb); have n5_ := Aside0.mk (bbl_ BK722.out hb); have n6_ := Aside0.mk (below_step (qq7 HB.out GE722.out) hb); clear HO_5; clear HO_8; clear HO_9; clear HO_11; clear HO_12; clear BK722; clear HB; have HO_5 := n0_; have HO_8 := n1_; have HO_9 := n2_; have HO_11 := n3_; have HO_12 := n4_; have BK722 := n5_; have HB := n6_; clear n0_ n1_ n2_ n3_ n4_ n5_ n6_; (try clear hb); (try clear hb2); (try clear hk); (try clear hi); have hcz148_0 : w147.cell? ⟨gb722, 0, none⟩ = some (.int .i64 (((l1.length : Int) % 13) - 6)) := (blk_cell BK722.out 0).trans rfl; have hcz148_1 : w147.cell? ⟨gb722, 1, none⟩ = some (.int .i64 (wrap64 ((Int.tmod (wrap64 ((l1.length : Int) / 13)) 13) - 6))) := (blk_cell BK722.out 1).trans rfl; have hfz148_0 := blk_frozen BK722.out 0; have hfz148_1 := blk_frozen BK722.out 1) | ((with_reducible refine gate_callee (f := 25) rfl ?_); refine goesL_ (some 108) rfl rfl Try.func25 (by kernel_rfl) rfl #[.slice Ao11 t699.length co11, .agg #[.int .i64 (((l1.length : Int) % 13) - 6), .int .i64 (wrap64 ((Int.tmod (wrap64 ((l1.length : Int) / 13)) 13) - 6))]] rfl qq3 ?_; (with_reducible refine (impl_PolyPlace.calls _ _ t699 (((l1.length : Int) % 13) - 6) (wrap64 ((Int.tmod (wrap64 ((l1.length : Int) / 13)) 13) - 6)) t727 true _ ?side1 ?side2 A40.out).mono ?_); (case side1 => exact qq36 HO_5.out); (case side2 => exact qq81); rintro e w149 ⟨rfl, hb⟩; refine ⟨_, rfl, ?_⟩; have n0_ := Aside0.mk (Kd.Q_below (qq16 HO_5.out) hb); have n1_ := Aside0.mk (Kd.R_below (qq2 HO_8.out) hb); have n2_ := Aside0.mk (Kd.R_below (qq2 HO_9.out) hb); have n3_ := Aside0.mk (Kd.R_below (qq2 HO_11.out) hb); have n4_ := Aside0.mk (Kd.R_below (qq2 HO_12.out) hb); have n5_ := Aside0.mk (bbl_ BK722.out hb); have n6_ := Aside0.mk (below_step (qq7 HB.out GE722.out) hb); clear HO_5; clear HO_8; clear HO_9; clear HO_11; clear HO_12; clear BK722; clear HB; have HO_5 := n0_; have HO_8 := n1_; have HO_9 := n2_; have HO_11 := n3_; have HO_12 := n4_; have BK722 := n5_; have HB := n6_; clear n0_ n1_ n2_ n3_ n4_ n5_ n6_; (try clear hb); (try clear hb2); (try clear hk); (try clear hi)))
            go_ret
            exact ⟨qq10, qq7 HB.out GE722.out⟩
           ·have ck1 : decide (t723 < 1) = true := by rw [ce1]; rfl
            have ck2 : decide (t725 < 1) = false := by rw [ce2]; rfl
            have ck3 : decide ((-1) < t727) = true := by rw [ce3]; rfl
            have ck4 : decide (t727 < 1) = false := by rw [ce3]; rfl
            have ck5 : decide (0 ≤ t723) = false := by rw [ce1]; rfl
            have ck6 : decide (0 ≤ t725) = true := by rw [ce2]; rfl
            have ck7 : (t723 == (-1)) = true := by rw [ce1]; rfl
            have ck8 : (t725 == (-1)) = false := by rw [ce2]; rfl
            have ck9 : (t727 == 1) = true := by rw [ce3]; rfl
            clear ce1 ce2 ce3
            go_wp2_with (first | ((with_reducible refine gate_dst (N := 14) rfl ?_); (try (refine gate_guard (by rfl) ?_; dsimp only)); refine box_event ?hg (N := 14) ?hd (cs := #[.int .i64 0, .int .i64 0]) (t := 32) ?hr ?_; (case hd => rfl); (case hg => rfl); (case hr => exact qq22); intro gb722 hg w141 hbox hb; have n0_ := Aside0.mk (Kd.Q_below (Kd.Q_elderB (qq16 HO_5.out) gb722 (Nat.le_of_eq hg.symm)) hb); have n1_ := Aside0.mk (Kd.R_below (Kd.R_elderB (qq2 HO_8.out) gb722 (Nat.le_of_eq hg.symm)) hb); have n2_ := Aside0.mk (Kd.R_below (Kd.R_elderB (qq2 HO_9.out) gb722 (Nat.le_of_eq hg.symm)) hb); have n3_ := Aside0.mk (Kd.R_below (Kd.R_elderB (qq2 HO_11.out) gb722 (Nat.le_of_eq hg.symm)) hb); have n4_ := Aside0.mk (Kd.R_below (Kd.R_elderB (qq2 HO_12.out) gb722 (Nat.le_of_eq hg.symm)) hb); have n5_ := Aside0.mk (below_step qq1 hb); have n6_ := Aside0.mk (hbox); have n7_ := Aside0.mk ((qq35 : w.heap.size ≤ gb722)); have n8_ := Aside0.mk ((qq35 : w.heap.size ≤ gb722)); clear HO_5; clear HO_8; clear HO_9; clear HO_11; clear HO_12; clear HB; have HO_5 := n0_; have HO_8 := n1_; have HO_9 := n2_; have HO_11 := n3_; have HO_12 := n4_; have HB := n5_; have BK722 := n6_; have GW722 := n7_; have GE722 := n8_; clear n0_ n1_ n2_ n3_ n4_ n5_ n6_ n7_ n8_; clear hb hbox hg; have hcz142_0 : w141.cell? ⟨gb722, 0, none⟩ = some (.int .i64 0) := (blk_cell BK722.out 0).trans rfl; have hcz142_1 : w141.cell? ⟨gb722, 1, none⟩ = some (.int .i64 0) := (blk_cell BK722.out 1).trans rfl; have hfz142_0 := blk_frozen BK722.out 0; have hfz142_1 := blk_frozen BK722.out 1; obtain ⟨Ao143, co143, eo143⟩ := Kd.R_slice HO_8.out; subst eo143) | ((with_reducible refine gate_callee (f := 25) rfl ?_); refine goesL_ (some 96) rfl rfl Try.func25 (by kernel_rfl) rfl #[.slice Ao143 t704.length co143, .agg #[.int .i64 (((l1.length : Int) % 13) - 6), .int .i64 (wrap64 ((Int.tmod (wrap64 ((l1.length : Int) / 13)) 13) - 6))]] rfl qq3 ?_; (with_reducible refine (impl_PolyPlace.calls _ _ t704 (((l1.length : Int) % 13) - 6) (wrap64 ((Int.tmod (wrap64 ((l1.length : Int) / 13)) 13) - 6)) t723 true _ ?side1 ?side2 A38.out).mono ?_); (case side1 => exact qq34); (case side2 => exact qq62 HO_8.out); rintro e w144 ⟨rfl, hb⟩; refine ⟨_, rfl, ?_⟩; have n0_ := Aside0.mk (Kd.Q_below qq23 hb); have n1_ := Aside0.mk (Kd.R_below (qq5 HO_8.out) hb); have n2_ := Aside0.mk (Kd.R_below (qq5 HO_9.out) hb); have n3_ := Aside0.mk (Kd.R_below (qq5 HO_11.out) hb); have n4_ := Aside0.mk (Kd.R_below (qq5 HO_12.out) hb); have n5_ := Aside0.mk (blk_below (g := gb722) (o := .cells #[.int .i64 (((l1.length : Int) % 13) - 6), .int .i64 (wrap64 ((Int.tmod (wrap64 ((l1.length : Int) / 13)) 13) - 6))] 32 (0, 0)) qq21 hb); have n6_ := Aside0.mk (below_step (qq7 HB.out GE722.out) hb); clear HO_5; clear HO_8; clear HO_9; clear HO_11; clear HO_12; clear BK722; clear HB; have HO_5 := n0_; have HO_8 := n1_; have HO_9 := n2_; have HO_11 := n3_; have HO_12 := n4_; have BK722 := n5_; have HB := n6_; clear n0_ n1_ n2_ n3_ n4_ n5_ n6_; (try clear hb); (try clear hb2); (try clear hk); (try clear hi); have hcz145_0 : w144.cell? ⟨gb722, 0, none⟩ = some (.int .i64 (((l1.length : Int) % 13) - 6)) := (blk_cell BK722.out 0).trans rfl; have hcz145_1 : w144.cell? ⟨gb722, 1, none⟩ = some (.int .i64 (wrap64 ((Int.tmod (wrap64 ((l1.length : Int) / 13)) 13) - 6))) := (blk_cell BK722.out 1).trans rfl; have hfz145_0 := blk_frozen BK722.out 0; have hfz145_1 := blk_frozen BK722.out 1; obtain ⟨Ao146, co146, eo146⟩ := Kd.R_slice HO_9.out; subst eo146) | ((with_reducible refine gate_callee (f := 25) rfl ?_); refine goesL_ (some 102) rfl rfl Try.func25 (by kernel_rfl) rfl #[.slice Ao146 t705.length co146, .agg #[.int .i64 (((l1.length : Int) % 13) - 6), .int .i64 (wrap64 ((Int.tmod (wrap64 ((l1.length : Int) / 13)) 13) - 6))]] rfl qq3 ?_; (with_reducible refine (impl_PolyPlace.calls _ _ t705 (((l1.length : Int) % 13) - 6) (wrap64 ((Int.tmod (wrap64 ((l1.length : Int) / 13)) 13) - 6)) t725 true _ ?side1 ?side2 A39.out).mono ?_); (case side1 => exact qq11 HO_9.out); (case side2 => exact qq62 HO_9.out); rintro e w147 ⟨rfl, hb⟩; refine ⟨_, rfl, ?_⟩; have n0_ := Aside0.mk (Kd.Q_below (qq16 HO_5.out) hb); have n1_ := Aside0.mk (Kd.R_below (qq2 HO_8.out) hb); have n2_ := Aside0.mk (Kd.R_below (qq2 HO_9.out) hb); have n3_ := Aside0.mk (Kd.R_below (qq2 HO_11.out) hb); have n4_ := Aside0.mk (Kd.R_below (qq2 HO_12.out) hb); have n5_ := Aside0.mk (bbl_ BK722.out hb); have n6_ := Aside0.mk (below_step (qq7 HB.out GE722.out) hb); clear HO_5; clear HO_8; clear HO_9; clear HO_11; clear HO_12; clear BK722; clear HB; have HO_5 := n0_; have HO_8 := n1_; have HO_9 := n2_; have HO_11 := n3_; have HO_12 := n4_; have BK722 := n5_; have HB := n6_; clear n0_ n1_ n2_ n3_ n4_ n5_ n6_; (try clear hb); (try clear hb2); (try clear hk); (try clear hi); have hcz148_0 : w147.cell? ⟨gb722, 0, none⟩ = some (.int .i64 (((l1.length : Int) % 13) - 6)) := (blk_cell BK722.out 0).trans rfl; have hcz148_1 : w147.cell? ⟨gb722, 1, none⟩ = some (.int .i64 (wrap64 ((Int.tmod (wrap64 ((l1.length : Int) / 13)) 13) - 6))) := (blk_cell BK722.out 1).trans rfl; have hfz148_0 := blk_frozen BK722.out 0; have hfz148_1 := blk_frozen BK722.out 1) | ((with_reducible refine gate_callee (f := 25) rfl ?_); refine goesL_ (some 108) rfl rfl Try.func25 (by kernel_rfl) rfl #[.slice Ao11 t699.length co11, .agg #[.int .i64 (((l1.length : Int) % 13) - 6), .int .i64 (wrap64 ((Int.tmod (wrap64 ((l1.length : Int) / 13)) 13) - 6))]] rfl qq3 ?_; (with_reducible refine (impl_PolyPlace.calls _ _ t699 (((l1.length : Int) % 13) - 6) (wrap64 ((Int.tmod (wrap64 ((l1.length : Int) / 13)) 13) - 6)) t727 true _ ?side1 ?side2 A40.out).mono ?_); (case side1 => exact qq36 HO_5.out); (case side2 => exact qq81); rintro e w149 ⟨rfl, hb⟩; refine ⟨_, rfl, ?_⟩; have n0_ := Aside0.mk (Kd.Q_below (qq16 HO_5.out) hb); have n1_ := Aside0.mk (Kd.R_below (qq2 HO_8.out) hb); have n2_ := Aside0.mk (Kd.R_below (qq2 HO_9.out) hb); have n3_ := Aside0.mk (Kd.R_below (qq2 HO_11.out) hb); have n4_ := Aside0.mk (Kd.R_below (qq2 HO_12.out) hb); have n5_ := Aside0.mk (bbl_ BK722.out hb); have n6_ := Aside0.mk (below_step (qq7 HB.out GE722.out) hb); clear HO_5; clear HO_8; clear HO_9; clear HO_11; clear HO_12; clear BK722; clear HB; have HO_5 := n0_; have HO_8 := n1_; have HO_9 := n2_; have HO_11 := n3_; have HO_12 := n4_; have BK722 := n5_; have HB := n6_; clear n0_ n1_ n2_ n3_ n4_ n5_ n6_; (try clear hb); (try clear hb2); (try clear hk); (try clear hi)))
            go_ret
            exact ⟨qq10, qq7 HB.out GE722.out⟩
          ·rw [if_neg csc] at H
           cases H
         ·replace c43 := Bool.eq_false_iff.mpr c43
          subst c43
          have H1 : (some false) = some r := by rw [if_neg (show ¬ (false = true) by decide)] at H; exact H
          clear H
          have H := H1
          clear H1
          exact absurd ((Option.some.inj H).trans hT.out) (by decide)
        ·replace c42 := Bool.eq_false_iff.mpr c42
         subst c42
         have H1 : (some false) = some r := by rw [if_neg (show ¬ (false = true) by decide)] at H; exact H
         clear H
         have H := H1
         clear H1
         exact absurd ((Option.some.inj H).trans hT.out) (by decide)
       ·replace c41 := Bool.eq_false_iff.mpr c41
        subst c41
        have H1 : (some false) = some r := by rw [if_neg (show ¬ (false = true) by decide)] at H; exact H
        clear H
        have H := H1
        clear H1
        exact absurd ((Option.some.inj H).trans hT.out) (by decide)
/-- THE ONE PURE STATEMENT of laws_FnSplitPlace: yours. -/
def laws_FnSplitPlace.Pure : Prop := ∀ (l0 : List Int) (l1 : List Int), l0.length ≤ maxLen → l0.length * 1 ≤ 140737488351232 → (∀ x ∈ l0, (Lit.int .u8 x).wf = true) → l1.length ≤ maxLen → l1.length * 1 ≤ 140737488351232 → (∀ x ∈ l1, (Lit.int .u8 x).wf = true) → ∃ k, laws_FnSplitPlace.f k l0 l1 = some true
theorem laws_FnSplitPlace.walk (P : laws_FnSplitPlace.Pure) (a0 : Option Addr) (len0 cap0 : Nat) (z0 : List Int) (a1 : Option Addr) (len1 cap1 : Nat) (z1 : List Int) (w : World) (w0 : (a0 = none ∧ len0 = 0 ∧ cap0 = 0 ∧ z0 = []) ∨ ∃ x, a0 = some x ∧ len0 ≤ cap0 ∧ cap0 ≤ maxLen ∧ z0.length = cap0 ∧ (∀ i, i < z0.length → w.cell? (x.add i) = some (.int .u8 (z0.getD i 0))) ∧ ∀ n ∈ z0, (Lit.int .u8 n).wf = true) (y0 : len0 * 1 ≤ 140737488351232) (w1 : (a1 = none ∧ len1 = 0 ∧ cap1 = 0 ∧ z1 = []) ∨ ∃ x, a1 = some x ∧ len1 ≤ cap1 ∧ cap1 ≤ maxLen ∧ z1.length = cap1 ∧ (∀ i, i < z1.length → w.cell? (x.add i) = some (.int .u8 (z1.getD i 0))) ∧ ∀ n ∈ z1, (Lit.int .u8 n).wf = true) (y1 : len1 * 1 ≤ 140737488351232) :
  Calls Try.prog 9 #[.slice a0 len0 cap0, .slice a1 len1 cap1] w fun e w' => e = .returned (.bool true) ∧ Below w.heap.size w w' := by
 obtain ⟨l0, rfl, hr0, hm0, hw0, hc0⟩ := ReadsInt.ofRowC w0
 obtain ⟨l1, rfl, hr1, hm1, hw1, hc1⟩ := ReadsInt.ofRowC w1
 obtain ⟨k, h⟩ := P l0 l1 hm0 y0 hw0 hm1 y1 hw1
 refine (laws_FnSplitPlace.calls k _ _ l0 _ _ l1 true w (Kd.C_of_reads (d := (0 : Int)) (h1 := fun _ => rfl) hr0) hc0 (Kd.C_of_reads (d := (0 : Int)) (h1 := fun _ => rfl) hr1) hc1 h rfl).mono ?_
 rintro e w' ⟨rfl, hd⟩
 exact ⟨rfl, hd⟩
end Go.Proofs.Ytgdhgncdpmalcaa.Q
namespace Go.Proofs.Ytgdhgncdpmalcaa.Geo
set_option linter.unusedVariables false
/-! ### Sums -/
def sm (lo : Nat) : Nat → (Nat → Int) → Int
  | 0, _ => 0
  | k + 1, f => sm lo k f + f (lo + k)
theorem sm_congr {lo k : Nat} {f g : Nat → Int} (h : ∀ j, lo ≤ j → j < lo + k → f j = g j) : sm lo k f = sm lo k g := by
  induction k with
  | zero => rfl
  | succ k ih => simp only [sm]; rw [ih (fun j a b => h j a (by omega)), h (lo + k) (by omega) (by omega)]
theorem sm_tele (lo k : Nat) (f : Nat → Int) : sm lo k (fun j => f (j + 1) - f j) = f (lo + k) - f lo := by
  induction k with
  | zero => simp [sm]
  | succ k ih => simp only [sm]; rw [ih, show lo + (k + 1) = lo + k + 1 from rfl]; omega
theorem sm_first (lo k : Nat) (f : Nat → Int) : sm lo (k + 1) f = f lo + sm (lo + 1) k f := by
  induction k with
  | zero => simp [sm]
  | succ k ih => rw [sm, ih, sm, show lo + 1 + k = lo + (k + 1) from by omega]; omega
theorem sm_add (lo k : Nat) (f g : Nat → Int) : sm lo k (fun j => f j + g j) = sm lo k f + sm lo k g := by
  induction k with
  | zero => rfl
  | succ k ih => simp only [sm]; rw [ih]; omega
theorem sm_sub (lo k : Nat) (f g : Nat → Int) : sm lo k (fun j => f j - g j) = sm lo k f - sm lo k g := by
  induction k with
  | zero => rfl
  | succ k ih => simp only [sm]; rw [ih]; omega
theorem sm_zero {lo k : Nat} {f : Nat → Int} (h : ∀ j, lo ≤ j → j < lo + k → f j = 0) : sm lo k f = 0 := by
  induction k with
  | zero => rfl
  | succ k ih => simp only [sm]; rw [ih (fun j a b => h j a (by omega)), h (lo + k) (by omega) (by omega)]; rfl
theorem sm_shift (lo k : Nat) (f : Nat → Int) (h : f (lo + k) = f lo) : sm (lo + 1) k f = sm lo k f := by
  have a := sm_first lo k f
  simp only [sm] at a
  omega
theorem sm_period {n : Nat} {f : Nat → Int} (h : ∀ i, f (i + n) = f i) (lo : Nat) : sm lo n f = sm 0 n f := by
  induction lo with
  | zero => rfl
  | succ lo ih => rw [sm_shift lo n f (h lo), ih]
theorem sm_split (lo a b : Nat) (f : Nat → Int) : sm lo (a + b) f = sm lo a f + sm (lo + a) b f := by
  induction b with
  | zero => simp [sm]
  | succ b ih => rw [show a + (b + 1) = (a + b) + 1 from rfl, sm, ih, sm, show lo + (a + b) = lo + a + b from by omega]; omega
/-- A row of cells. -/
theorem sm_cells {lo k : Nat} {f g h : Nat → Int} (H : ∀ j, lo ≤ j → j < lo + k → f j + h (j + 1) = g j + h j) : sm lo k f + h (lo + k) = sm lo k g + h lo := by
  have e : sm lo k f = sm lo k (fun j => g j - (h (j + 1) - h j)) := sm_congr (fun j a b => by have := H j a b; omega)
  have e2 := sm_sub lo k g (fun j => h (j + 1) - h j)
  rw [sm_tele] at e2
  rw [e, e2]; omega

theorem sm_neg (lo k : Nat) (f : Nat → Int) : sm lo k (fun j => -(f j)) = -(sm lo k f) := by
  induction k with
  | zero => rfl
  | succ k ih => simp only [sm]; rw [ih]; omega
theorem sm_rev (k : Nat) (f : Nat → Int) : sm 0 k (fun j => f (k - 1 - j)) = sm 0 k f := by
  induction k with
  | zero => rfl
  | succ k ih =>
    rw [sm_first, sm]
    have : sm (0 + 1) k (fun j => f (k + 1 - 1 - j)) = sm 0 k (fun j => f (k - 1 - j)) := by
      have sh : ∀ (m : Nat) (g h : Nat → Int), (∀ j, j < m → g (j + 1) = h j) → sm (0 + 1) m g = sm 0 m h := by
        intro m g h
        induction m with
        | zero => intro _; rfl
        | succ m ihm => intro hh; simp only [sm]; rw [ihm (fun j hj => hh j (by omega)), show 0 + 1 + m = m + 1 from by omega, hh m (by omega), Nat.zero_add]
      exact sh k _ _ (fun j hj => by rw [show k + 1 - 1 - (j + 1) = k - 1 - j from by omega])
    rw [this, ih, Nat.zero_add, show k + 1 - 1 - 0 = k from by omega]
    omega
theorem sm_sh (m lo : Nat) (g : Nat → Int) : sm lo m g = sm 0 m (fun j => g (lo + j)) := by
  induction m with
  | zero => rfl
  | succ m ih => simp only [sm]; rw [ih, Nat.zero_add]
theorem sm_bd {lo k : Nat} {f : Nat → Int} {B : Int} (h : ∀ j, lo ≤ j → j < lo + k → -B ≤ f j ∧ f j ≤ B) : -(B * k) ≤ sm lo k f ∧ sm lo k f ≤ B * k := by
  induction k with
  | zero => simp [sm]
  | succ k ih =>
    have h1 := ih (fun j a b => h j a (by omega))
    have h2 := h (lo + k) (by omega) (by omega)
    have e : B * ((k + 1 : Nat) : Int) = B * (k : Int) + B := by rw [Int.natCast_add, Int.mul_add]; simp
    rw [sm, e]
    omega
end Go.Proofs.Ytgdhgncdpmalcaa.Geo
namespace Go.Proofs.Ytgdhgncdpmalcaa.Pure
open Go.RowKit Go.Proofs.Ytgdhgncdpmalcaa.Q Go.Proofs.Ytgdhgncdpmalcaa.Ring Go.Proofs.YtgdhgncdpmalcaaW.PrintWords Go.Proofs.YtgdhgncdpmalcaaW.PrintLast
theorem pwA {x : Int} (h0 : 0 ≤ x) (h1 : x ≤ 4611686018427387904) : wrap64 x = x := by unfold wrap64; omega
theorem Area_l0 {l : List Pt} (hl : l.length ≤ 1048576) (n : Nat) : ∀ (j k : Nat), j + n = l.length → n < k → spec_l31Area.l0 k l (areaS l j) (j : Int) = some (areaS l l.length) := by
  induction n with
  | zero =>
    intro j k hj hk
    obtain ⟨k, rfl⟩ : ∃ m, k = m + 1 := ⟨k - 1, by omega⟩
    rw [spec_l31Area.l0, if_neg (by omega), show j = l.length by omega]
  | succ n ih =>
    intro j k hj hk
    obtain ⟨k, rfl⟩ : ∃ m, k = m + 1 := ⟨k - 1, by omega⟩
    have hw : wrap64 ((j : Int) + 1) = ((j + 1 : Nat) : Int) := by rw [pwA (by omega) (by omega)]; omega
    have hmod : Int.tmod ((j + 1 : Nat) : Int) (l.length : Int) = (((j + 1) % l.length : Nat) : Int) := by
      rw [Int.tmod_eq_emod_of_nonneg (by omega)]; simp
    have hlt : (j + 1) % l.length < l.length := Nat.mod_lt _ (by omega)
    rw [spec_l31Area.l0, if_pos (by omega), if_pos (by omega), if_neg (by omega), hw, hmod, if_pos (by omega), if_pos (by omega)]
    simp only [at_rd, spec_l2Cross.f, Option.bind_some]
    have := ih (j + 1) k (by omega) (by omega)
    rw [areaS] at this
    unfold crossP nxt at this
    rw [Int.mul_comm (at_ l ((j + 1) % l.length)).f0] at this
    exact this
end Go.Proofs.Ytgdhgncdpmalcaa.Pure
namespace Go.Proofs.Ytgdhgncdpmalcaa.Pure
open Go.RowKit Go.Proofs.Ytgdhgncdpmalcaa.Q Go.Proofs.YtgdhgncdpmalcaaW.PrintWords Go.Proofs.YtgdhgncdpmalcaaW.PrintLast
/-- The first corner, then the others from the last one on. -/
def backL : List Pt → List Pt
  | [] => []
  | p :: l => p :: l.reverse
theorem Back_ok {p : Pt} {l : List Pt} (hl : l.length ≤ 100) (n : Nat) : ∀ (x : List Pt) (k : Nat), n < k → n ≤ l.length → x.length ≤ 200 - n → spec_PolyBack.l0 k (p :: l) x (n : Int) = some (x ++ (l.take n).reverse, true) := by
  induction n with
  | zero =>
    intro x k hk _ _
    obtain ⟨k, rfl⟩ : ∃ m, k = m + 1 := ⟨k - 1, by omega⟩
    rw [spec_PolyBack.l0, if_neg (by omega)]
    simp
  | succ n ih =>
    intro x k hk hn hx
    obtain ⟨k, rfl⟩ : ∃ m, k = m + 1 := ⟨k - 1, by omega⟩
    rw [spec_PolyBack.l0, if_pos (by omega), if_pos (by omega), if_pos (by simp; omega), if_pos (by omega), pw64 (by omega) (by omega), show ((n + 1 : Nat) : Int) - 1 = n by omega, ih _ k (by omega) (by omega) (by simp; omega)]
    have e : rd_T32 (p :: l) ((n + 1 : Nat) : Int) = l[n] := by simp [rd_T32, List.getElem?_eq_getElem (show n < l.length by omega)]
    have e2 : (l.take (n + 1)).reverse = l[n] :: (l.take n).reverse := by rw [List.take_add_one, List.getElem?_eq_getElem (show n < l.length by omega)]; simp
    rw [e, e2, List.append_assoc]
    rfl
theorem spec_PolyBack_eq (k : Nat) (l : List Pt) (hl : l.length ≤ 1048576) (hk : l.length + 30 < k) : spec_PolyBack.f k l = some (if cvB l = true then (backL l, true) else ([], false)) := by
  unfold spec_PolyBack.f
  rw [l31Points_eq _ _ hl (by omega)]
  simp only [Option.bind_some]
  by_cases h : cvB l = true
  · have hv := cvB_iff.1 h
    rw [if_pos h, if_pos h, if_pos (by omega)]
    cases l with
    | nil => simp at hv
    | cons p l =>
      simp only [List.length_cons] at hv hk hl ⊢
      rw [pw64 (by omega) (by omega), show ((l.length + 1 : Nat) : Int) - 1 = (l.length : Int) by omega, Back_ok (by omega) l.length _ _ (by omega) (by omega) (by simp; omega), List.take_length]
      rfl
  · rw [if_neg h, if_neg h]
end Go.Proofs.Ytgdhgncdpmalcaa.Pure
namespace Go.Proofs.Ytgdhgncdpmalcaa.Pure
open Go.RowKit Go.Proofs.Ytgdhgncdpmalcaa.Q Go.Proofs.Ytgdhgncdpmalcaa.Ring Go.Proofs.Ytgdhgncdpmalcaa.Geo Go.Proofs.YtgdhgncdpmalcaaW.PrintWords Go.Proofs.YtgdhgncdpmalcaaW.PrintLast
/-- Corner i of a list, gone round as often as it takes. -/
def PC (l : List Pt) (i : Nat) : Pt := at_ l (i % l.length)
theorem PC_at {l : List Pt} {i : Nat} (h : i < l.length) : PC l i = at_ l i := by unfold PC; rw [Nat.mod_eq_of_lt h]
theorem PC_per (l : List Pt) (i : Nat) : PC l (i + l.length) = PC l i := by unfold PC; rw [Nat.add_mod_right]
theorem PC_nxt {l : List Pt} {i : Nat} : nxt l i = PC l (i + 1) := rfl
def crI (p q : Pt) : Int := p.f0 * q.f1 - q.f0 * p.f1
def area2 (l : List Pt) : Int := sm 0 l.length (fun i => crI (PC l i) (PC l (i + 1)))
theorem at_mem {l : List Pt} {j : Nat} (hj : j < l.length) : at_ l j ∈ l := by unfold at_; rw [List.getD_eq_getElem?_getD, List.getElem?_eq_getElem hj]; exact List.getElem_mem hj
theorem cv_at {l : List Pt} (h : cvB l = true) (i : Nat) : (-10000 ≤ (PC l i).f0 ∧ (PC l i).f0 ≤ 10000) ∧ -10000 ≤ (PC l i).f1 ∧ (PC l i).f1 ≤ 10000 := by
  have hv := cvB_iff.1 h
  exact ptB_iff.1 (hv.2 _ (at_mem (Nat.mod_lt _ (by omega))))
theorem mulX {x y : Int} (hx : -10000 ≤ x ∧ x ≤ 10000) (hy : -10000 ≤ y ∧ y ≤ 10000) : -100000000 ≤ x * y ∧ x * y ≤ 100000000 := by
  have h1 : x.natAbs ≤ 10000 := by omega
  have h2 : y.natAbs ≤ 10000 := by omega
  have h3 : (x * y).natAbs ≤ 10000 * 10000 := by rw [Int.natAbs_mul]; exact Nat.mul_le_mul h1 h2
  omega
theorem crI_bd {p q : Pt} (hp : (-10000 ≤ p.f0 ∧ p.f0 ≤ 10000) ∧ -10000 ≤ p.f1 ∧ p.f1 ≤ 10000) (hq : (-10000 ≤ q.f0 ∧ q.f0 ≤ 10000) ∧ -10000 ≤ q.f1 ∧ q.f1 ≤ 10000) : -200000000 ≤ crI p q ∧ crI p q ≤ 200000000 := by
  have h1 := mulX hp.1 hq.2
  have h2 := mulX hq.1 hp.2
  unfold crI; omega
theorem crossP_eq {p q : Pt} (hp : (-10000 ≤ p.f0 ∧ p.f0 ≤ 10000) ∧ -10000 ≤ p.f1 ∧ p.f1 ≤ 10000) (hq : (-10000 ≤ q.f0 ∧ q.f0 ≤ 10000) ∧ -10000 ≤ q.f1 ∧ q.f1 ≤ 10000) : crossP p q = crI p q := by
  have h1 := mulX hp.1 hq.2
  have h2 := mulX hq.1 hp.2
  unfold crossP crI
  rw [pw64 (x := p.f0 * q.f1) (by omega) (by omega), pw64 (x := q.f0 * p.f1) (by omega) (by omega), pw64 (by omega) (by omega)]
theorem areaS_sm {l : List Pt} (h : cvB l = true) (j : Nat) (hj : j ≤ l.length) : areaS l j = sm 0 j (fun i => crI (PC l i) (PC l (i + 1))) := by
  have hv := cvB_iff.1 h
  induction j with
  | zero => rfl
  | succ j ih =>
    have e := ih (by omega)
    have b := sm_bd (lo := 0) (k := j) (f := fun i => crI (PC l i) (PC l (i + 1))) (B := 200000000) (fun i _ _ => crI_bd (cv_at h i) (cv_at h (i + 1)))
    have c := crI_bd (cv_at h j) (cv_at h (j + 1))
    rw [areaS, sm, e, PC_nxt, ← PC_at (show j < l.length by omega), crossP_eq (cv_at h j) (cv_at h (j + 1)), pw64 (by omega) (by omega), Nat.zero_add]
theorem areaS_eq {l : List Pt} (h : cvB l = true) : areaS l l.length = area2 l := areaS_sm h _ (Nat.le_refl _)
/-! lists begun elsewhere -/
def begL (l : List Pt) (k : Nat) : List Pt := l.drop k ++ l.take k
theorem begL_length {l : List Pt} {k : Nat} (hk : k ≤ l.length) : (begL l k).length = l.length := by unfold begL; rw [List.length_append, List.length_drop, List.length_take]; omega
theorem at_app (a b : List Pt) (i : Nat) : at_ (a ++ b) i = if i < a.length then at_ a i else at_ b (i - a.length) := by
  unfold at_
  simp only [List.getD_eq_getElem?_getD]
  by_cases h : i < a.length
  · rw [if_pos h, List.getElem?_append_left h]
  · rw [if_neg h, List.getElem?_append_right (by omega)]
theorem at_drop (l : List Pt) (k i : Nat) : at_ (l.drop k) i = at_ l (k + i) := by unfold at_; simp [List.getD_eq_getElem?_getD, List.getElem?_drop]
theorem at_take {l : List Pt} {k i : Nat} (h : i < k) : at_ (l.take k) i = at_ l i := by unfold at_; simp [List.getD_eq_getElem?_getD, h]
theorem at_beg {l : List Pt} {k r : Nat} (hk : k < l.length) (hr : r < l.length) : at_ (begL l k) r = at_ l ((r + k) % l.length) := by
  unfold begL
  rw [at_app, List.length_drop]
  by_cases h : r < l.length - k
  · rw [if_pos h, at_drop, Nat.mod_eq_of_lt (by omega), Nat.add_comm]
  · rw [if_neg h, at_take (by omega)]
    have e : (r + k) % l.length = r - (l.length - k) := by
      rw [show r + k = (r - (l.length - k)) + l.length by omega, Nat.add_mod_right, Nat.mod_eq_of_lt (by omega)]
    rw [e]
theorem PC_beg {l : List Pt} {k : Nat} (hk : k < l.length) (i : Nat) : PC (begL l k) i = PC l (i + k) := by
  unfold PC
  rw [begL_length (by omega), at_beg hk (Nat.mod_lt _ (by omega)), Nat.mod_add_mod]
theorem area2_beg {l : List Pt} {k : Nat} (hk : k < l.length) : area2 (begL l k) = area2 l := by
  unfold area2
  rw [begL_length (by omega)]
  have e : sm 0 l.length (fun i => crI (PC (begL l k) i) (PC (begL l k) (i + 1))) = sm 0 l.length (fun j => (fun i => crI (PC l i) (PC l (i + 1))) (k + j)) :=
    sm_congr (fun j _ _ => by rw [PC_beg hk, PC_beg hk, show j + k = k + j by omega, show j + 1 + k = k + j + 1 by omega])
  rw [e, ← sm_sh l.length k (fun i => crI (PC l i) (PC l (i + 1))), sm_period (fun i => by rw [PC_per, show i + l.length + 1 = i + 1 + l.length by omega, PC_per])]
theorem cv_beg {l : List Pt} {k : Nat} (hk : k ≤ l.length) : cvB (begL l k) = cvB l := by
  have e : ∀ p, p ∈ begL l k ↔ p ∈ l := fun p => by
    unfold begL
    rw [List.mem_append, Or.comm, ← List.mem_append, List.take_append_drop]
  unfold cvB
  rw [begL_length hk]
  congr 1
  rw [Bool.eq_iff_iff, List.all_eq_true, List.all_eq_true]
  exact ⟨fun h p hp => h p ((e p).2 hp), fun h p hp => h p ((e p).1 hp)⟩
/-! the opposite order -/
/-! turned -/
/-! what PolyArea answers -/
end Go.Proofs.Ytgdhgncdpmalcaa.Pure
namespace Go.Proofs.Ytgdhgncdpmalcaa.Pure
open Go.RowKit Go.Proofs.Ytgdhgncdpmalcaa.Q Go.Proofs.Ytgdhgncdpmalcaa.Ring Go.Proofs.Ytgdhgncdpmalcaa.Geo Go.Proofs.YtgdhgncdpmalcaaW.PrintWords Go.Proofs.YtgdhgncdpmalcaaW.PrintLast
def opp (x y : Int) : Prop := (0 < x ∧ y < 0) ∨ (x < 0 ∧ 0 < y)
/-- Two segments have a point in common. -/
def meetI (ax ay bx b_y cx cy dx dy : Int) : Prop := onP ax ay bx b_y cx cy ∨ onP ax ay bx b_y dx dy ∨ onP cx cy dx dy ax ay ∨ onP cx cy dx dy bx b_y ∨
  (opp (crs ax ay bx b_y cx cy) (crs ax ay bx b_y dx dy) ∧ opp (crs cx cy dx dy ax ay) (crs cx cy dx dy bx b_y))
structure SimpI (n : Nat) (X Y : Nat → Int) : Prop where
  n3 : 3 ≤ n
  px : ∀ i, X (i + n) = X i
  py : ∀ i, Y (i + n) = Y i
  dist : ∀ i j, i < n → j < n → X i = X j → Y i = Y j → i = j
  fold : ∀ i, ¬ onP (X i) (Y i) (X (i + 1)) (Y (i + 1)) (X (i + 2)) (Y (i + 2)) ∧ ¬ onP (X (i + 1)) (Y (i + 1)) (X (i + 2)) (Y (i + 2)) (X i) (Y i)
  meet : ∀ i j, i + 2 ≤ j → j + 2 ≤ i + n → ¬ meetI (X i) (Y i) (X (i + 1)) (Y (i + 1)) (X j) (Y j) (X (j + 1)) (Y (j + 1))
/-! the points of a list -/
def XX (l : List Pt) (i : Nat) : Int := (PC l i).f0
def YY (l : List Pt) (i : Nat) : Int := (PC l i).f1
theorem pvp {l : List Pt} (h : cvB l = true) (i : Nat) : PVP (PC l i) := by
  have := cv_at h i
  exact PV_iff.2 ⟨this.1.1, this.1.2, this.2.1, this.2.2⟩
theorem on_iff {p q r : Pt} (hp : PVP p) (hq : PVP q) (hr : PVP r) : onPt p q r = true ↔ onP p.f0 p.f1 q.f0 q.f1 r.f0 r.f1 := by
  unfold onPt onR
  rw [decide_eq_true_eq]
  exact ⟨fun h => h.2.2.2, fun h => ⟨hp, hq, hr, h⟩⟩
theorem on_no {p q r : Pt} (hp : PVP p) (hq : PVP q) (hr : PVP r) : onPt p q r = false ↔ ¬ onP p.f0 p.f1 q.f0 q.f1 r.f0 r.f1 := by
  rw [← on_iff hp hq hr, Bool.not_eq_true]
theorem sgn_eq {p q r : Pt} (hp : PVP p) (hq : PVP q) (hr : PVP r) : sgnP p q r = sgn (crs p.f0 p.f1 q.f0 q.f1 r.f0 r.f1) := by
  unfold sgnP; rw [sideR_yes hp hq hr]
theorem sgn_opp (x y : Int) : sgn x * sgn y < 0 ↔ opp x y := by
  unfold sgn opp
  split <;> split <;> (try split) <;> (try split) <;> first | omega | (simp; omega)
theorem meet_iff {a b c d : Pt} (ha : PVP a) (hb : PVP b) (hc : PVP c) (hd : PVP d) : meetPt a b c d = true ↔ meetI a.f0 a.f1 b.f0 b.f1 c.f0 c.f1 d.f0 d.f1 := by
  unfold meetPt meetI
  simp only [Bool.or_eq_true, Bool.and_eq_true, decide_eq_true_eq]
  rw [on_iff ha hb hc, on_iff ha hb hd, on_iff hc hd ha, on_iff hc hd hb, sgn_eq ha hb hc, sgn_eq ha hb hd, sgn_eq hc hd ha, sgn_eq hc hd hb, sgn_opp, sgn_opp]
  simp only [or_assoc]
theorem meet_no {a b c d : Pt} (ha : PVP a) (hb : PVP b) (hc : PVP c) (hd : PVP d) : meetPt a b c d = false ↔ ¬ meetI a.f0 a.f1 b.f0 b.f1 c.f0 c.f1 d.f0 d.f1 := by
  rw [← meet_iff ha hb hc hd, Bool.not_eq_true]
theorem PC_mod (l : List Pt) (i : Nat) : PC l (i % l.length) = PC l i := by unfold PC; rw [Nat.mod_mod]
theorem PC_mod1 (l : List Pt) (i d : Nat) : PC l (i % l.length + d) = PC l (i + d) := by unfold PC; rw [Nat.mod_add_mod]
theorem pt_eq {p q : Pt} (h0 : p.f0 = q.f0) (h1 : p.f1 = q.f1) : p = q := by
  obtain ⟨a, b⟩ := p; obtain ⟨c, d⟩ := q
  dsimp only at h0 h1; rw [h0, h1]
theorem same_no {p q : Pt} : sameP p q = false ↔ p ≠ q := by
  rw [← Bool.not_eq_true, sameP_iff]
  exact ⟨fun h e => h (by rw [e]; exact ⟨rfl, rfl⟩), fun h e => h (pt_eq e.1 e.2)⟩
theorem simp_iff {l : List Pt} (h : cvB l = true) : simpleB l = true ↔ SimpI l.length (XX l) (YY l) := by
  have hv := cvB_iff.1 h
  have pv := pvp h
  have at0 : ∀ i, i < l.length → at_ l i = PC l i := fun i hi => (PC_at hi).symm
  have atm : ∀ i, at_ l (i % l.length) = PC l i := fun i => rfl
  have nx : ∀ i, nxt l i = PC l (i + 1) := fun i => rfl
  have nxm : ∀ i d, nxt l ((i + d) % l.length) = PC l (i + d + 1) := fun i d => by rw [nx, PC_mod1]
  rw [simple_iff]
  constructor
  · rintro ⟨h1, h2⟩
    refine ⟨by omega, fun i => by unfold XX; rw [PC_per], fun i => by unfold YY; rw [PC_per], ?_, fun i => ?_, fun i j hi hj => ?_⟩
    · have key : ∀ i j, i < l.length → j < l.length → i < j → PC l i = PC l j → False := by
        intro i j hi hj hij e
        have := h1 i hi (j - i - 1) (by omega)
        unfold dupAt at this
        rw [show i + 1 + (j - i - 1) = j by omega, atm, at0 i hi, same_no] at this
        exact this e.symm
      intro i j hi hj e0 e1
      have e : PC l i = PC l j := pt_eq e0 e1
      rcases Nat.lt_trichotomy i j with q | q | q
      · exact (key i j hi hj q e).elim
      · exact q
      · exact (key j i hj hi q e.symm).elim
    · have := (h2 (i % l.length) (Nat.mod_lt _ (by omega))).1
      unfold foldAt at this
      rw [Bool.or_eq_false_iff, atm, nx, nxm, PC_mod1] at this
      rw [show i % l.length + 1 + 1 = i % l.length + 2 from rfl, PC_mod1] at this
      exact ⟨(on_no (pv _) (pv _) (pv _)).1 this.1, (on_no (pv _) (pv _) (pv _)).1 this.2⟩
    · have := (h2 (i % l.length) (Nat.mod_lt _ (by omega))).2 (j - i - 2) (by omega)
      unfold meetAt at this
      rw [atm, nx, PC_mod1, nxm, atm] at this
      rw [show i % l.length + 2 + (j - i - 2) + 1 = i % l.length + (j - i + 1) by omega, show i % l.length + 2 + (j - i - 2) = i % l.length + (j - i) by omega, PC_mod1, PC_mod1,
        show i + (j - i + 1) = j + 1 by omega, show i + (j - i) = j by omega] at this
      exact (meet_no (pv _) (pv _) (pv _) (pv _)).1 this
  · intro H
    refine ⟨fun i hi t ht => ?_, fun i hi => ⟨?_, fun t ht => ?_⟩⟩
    · unfold dupAt
      rw [atm, at0 i hi, same_no]
      intro e
      have hm := Nat.mod_lt (i + 1 + t) (show 0 < l.length by omega)
      rw [← PC_mod] at e
      have := H.dist _ _ hm hi (by unfold XX; rw [e]) (by unfold YY; rw [e])
      by_cases c : i + 1 + t < l.length
      · rw [Nat.mod_eq_of_lt c] at this; omega
      · rw [show i + 1 + t = (i + 1 + t - l.length) + l.length by omega, Nat.add_mod_right, Nat.mod_eq_of_lt (by omega)] at this
        omega
    · unfold foldAt
      rw [at0 i hi, nx, nxm, Bool.or_eq_false_iff]
      have := H.fold i
      exact ⟨(on_no (pv _) (pv _) (pv _)).2 this.1, (on_no (pv _) (pv _) (pv _)).2 this.2⟩
    · unfold meetAt
      rw [at0 i hi, nx, nxm, atm]
      exact (meet_no (pv _) (pv _) (pv _) (pv _)).2 (H.meet i (i + 2 + t) (by omega) (by omega))
theorem okS_iff {l : List Pt} : okS l = true ↔ cvB l = true ∧ SimpI l.length (XX l) (YY l) := by
  unfold okS
  rw [Bool.and_eq_true]
  exact ⟨fun h => ⟨h.1, (simp_iff h.1).1 h.2⟩, fun h => ⟨h.1, (simp_iff h.1).2 h.2⟩⟩
/-! another beginning, the other way round, a shift, a turn -/
theorem modp {n : Nat} {X : Nat → Int} (px : ∀ i, X (i + n) = X i) (i : Nat) : X (i % n) = X i := by
  have : ∀ k, X (i % n + n * k) = X (i % n) := by
    intro k
    induction k with
    | zero => rfl
    | succ k ih => rw [Nat.mul_succ, ← Nat.add_assoc, px, ih]
  have e := this (i / n)
  rw [Nat.mod_add_div] at e
  exact e.symm
theorem SimpI.shift {n : Nat} {X Y : Nat → Int} (h : SimpI n X Y) (k : Nat) : SimpI n (fun i => X (i + k)) (fun i => Y (i + k)) := by
  have n3 := h.n3
  refine ⟨h.n3, fun i => by rw [show i + n + k = i + k + n by omega, h.px], fun i => by rw [show i + n + k = i + k + n by omega, h.py], fun i j hi hj e0 e1 => ?_, fun i => ?_, fun i j hi hj => ?_⟩
  · rw [← modp h.px (i + k), ← modp h.px (j + k)] at e0
    rw [← modp h.py (i + k), ← modp h.py (j + k)] at e1
    have := h.dist _ _ (Nat.mod_lt _ (by omega)) (Nat.mod_lt _ (by omega)) e0 e1
    have a := Nat.div_add_mod (i + k) n
    have b := Nat.div_add_mod (j + k) n
    rw [this] at a
    rcases Nat.lt_trichotomy i j with q | q | q
    · exfalso
      rcases Nat.lt_or_ge ((i + k) / n) ((j + k) / n) with c | c
      · have : n * ((i + k) / n + 1) ≤ n * ((j + k) / n) := Nat.mul_le_mul_left _ c
        rw [Nat.mul_succ] at this; omega
      · have : n * ((j + k) / n) ≤ n * ((i + k) / n) := Nat.mul_le_mul_left _ c
        omega
    · exact q
    · exfalso
      rcases Nat.lt_or_ge ((j + k) / n) ((i + k) / n) with c | c
      · have : n * ((j + k) / n + 1) ≤ n * ((i + k) / n) := Nat.mul_le_mul_left _ c
        rw [Nat.mul_succ] at this; omega
      · have : n * ((i + k) / n) ≤ n * ((j + k) / n) := Nat.mul_le_mul_left _ c
        omega
  · have := h.fold (i + k)
    rw [show i + k + 1 = i + 1 + k by omega, show i + k + 2 = i + 2 + k by omega] at this
    exact this
  · have := h.meet (i + k) (j + k) (by omega) (by omega)
    rw [show i + k + 1 = i + 1 + k by omega, show j + k + 1 = j + 1 + k by omega] at this
    exact this
theorem crs_swap (a b c d e f : Int) : crs c d a b e f = -(crs a b c d e f) := by unfold crs; grind
theorem onP_sym {a b c d e f : Int} : onP c d a b e f ↔ onP a b c d e f := by
  unfold onP
  rw [crs_swap]
  constructor <;> intro h <;> omega
theorem SimpI.congr {n : Nat} {X Y X' Y' : Nat → Int} (h : SimpI n X Y) (hx : ∀ i, X' i = X i) (hy : ∀ i, Y' i = Y i) : SimpI n X' Y' := by
  have e1 : X' = X := funext hx
  have e2 : Y' = Y := funext hy
  rw [e1, e2]; exact h
theorem okS_beg {l : List Pt} (h : okS l = true) {k : Nat} (hk : k < l.length) : okS (begL l k) = true := by
  obtain ⟨hc, hs⟩ := okS_iff.1 h
  refine okS_iff.2 ⟨by rw [cv_beg (by omega)]; exact hc, ?_⟩
  rw [begL_length (by omega)]
  exact (hs.shift k).congr (fun i => by unfold XX; rw [PC_beg hk]) (fun i => by unfold YY; rw [PC_beg hk])
/-- A map of points that keeps what lies where. -/
structure Rigid (f : Int → Int → Int × Int) : Prop where
  inj : ∀ a b c d, f a b = f c d → a = c ∧ b = d
  crs : ∀ a b c d e g, crs (f a b).1 (f a b).2 (f c d).1 (f c d).2 (f e g).1 (f e g).2 = crs a b c d e g
  on : ∀ a b c d e g, onP (f a b).1 (f a b).2 (f c d).1 (f c d).2 (f e g).1 (f e g).2 ↔ onP a b c d e g
theorem SimpI.map {n : Nat} {X Y : Nat → Int} (h : SimpI n X Y) {f : Int → Int → Int × Int} (hf : Rigid f) : SimpI n (fun i => (f (X i) (Y i)).1) (fun i => (f (X i) (Y i)).2) := by
  refine ⟨h.n3, fun i => by rw [h.px, h.py], fun i => by rw [h.px, h.py], fun i j hi hj e0 e1 => ?_, fun i => ?_, fun i j hi hj => ?_⟩
  · have := hf.inj _ _ _ _ (Prod.ext e0 e1)
    exact h.dist i j hi hj this.1 this.2
  · rw [hf.on, hf.on]; exact h.fold i
  · have := h.meet i j hi hj
    unfold meetI at this ⊢
    rw [hf.on, hf.on, hf.on, hf.on, hf.crs, hf.crs, hf.crs, hf.crs]
    exact this
end Go.Proofs.Ytgdhgncdpmalcaa.Pure
namespace Go.Proofs.Ytgdhgncdpmalcaa.Pure
open Go.RowKit Go.Proofs.Ytgdhgncdpmalcaa.Q Go.Proofs.Ytgdhgncdpmalcaa.Ring Go.Proofs.Ytgdhgncdpmalcaa.Geo Go.Proofs.YtgdhgncdpmalcaaW.PrintWords Go.Proofs.YtgdhgncdpmalcaaW.PrintLast
/-- 1 if side i flips the place. -/
def flX (l : List Pt) (p : Pt) (i : Nat) : Int := if flipB (PC l i) (PC l (i + 1)) p then 1 else 0
def onX (l : List Pt) (p : Pt) (i : Nat) : Bool := onPt (PC l i) (PC l (i + 1)) p
def parI (s : Int) : Int := if s % 2 = 0 then -1 else 1
theorem placeV_par {l : List Pt} {p : Pt} (j : Nat) (hj : j ≤ l.length) : placeV l p j = parI (sm 0 j (flX l p)) := by
  induction j with
  | zero => rfl
  | succ j ih =>
    have e := ih (by omega)
    rw [placeV, sm, Nat.zero_add, e, ← PC_at (show j < l.length by omega), PC_nxt]
    unfold flX parI
    cases flipB (PC l j) (PC l (j + 1)) p
    · simp
    · simp only [if_true]
      by_cases c : sm 0 j (fun i => if flipB (PC l i) (PC l (i + 1)) p = true then 1 else 0) % 2 = 0
      · rw [if_pos c, if_neg (by omega)]; rfl
      · rw [if_neg c, if_pos (by omega)]
theorem onX_at {l : List Pt} {p : Pt} {i : Nat} (hi : i < l.length) : onAt l p i = onX l p i := by unfold onAt onX; rw [PC_at hi]; rfl
theorem onX_per (l : List Pt) (p : Pt) (i : Nat) : onX l p (i % l.length) = onX l p i := by unfold onX; rw [PC_mod, PC_mod1]
theorem place_on {l : List Pt} {p : Pt} (h0 : 0 < l.length) {i : Nat} (h : onX l p i = true) : placeR l p = 0 := by
  have hm := Nat.mod_lt i h0
  exact placeR_on hm (by rw [onX_at hm, onX_per]; exact h)
theorem place_off {l : List Pt} {p : Pt} (h : ∀ i, onX l p i = false) : placeR l p = parI (sm 0 l.length (flX l p)) := by
  rw [placeR_off (fun j hj => by rw [onX_at hj]; exact h j), placeV_par _ (Nat.le_refl _)]
/-- Two lists of one length with the same sides, up to their order. -/
theorem place_same {l m : List Pt} {p : Pt} (h0 : 0 < l.length) (h1 : 0 < m.length) (on1 : ∀ i, ∃ j, onX m p i = onX l p j) (on2 : ∀ i, ∃ j, onX l p i = onX m p j)
    (hf : (∀ i, onX l p i = false) → sm 0 m.length (flX m p) = sm 0 l.length (flX l p)) : placeR m p = placeR l p := by
  by_cases c : ∀ i, onX l p i = false
  · rw [place_off c, place_off (fun i => by obtain ⟨j, e⟩ := on1 i; rw [e]; exact c j), hf c]
  · obtain ⟨i, hi⟩ := Classical.not_forall.1 c
    have hi : onX l p i = true := by cases h : onX l p i <;> simp_all
    obtain ⟨j, e⟩ := on2 i
    rw [place_on h0 hi, place_on h1 (by rw [← e]; exact hi)]
theorem flX_per (l : List Pt) (p : Pt) (i : Nat) : flX l p (i + l.length) = flX l p i := by
  unfold flX; rw [PC_per, show i + l.length + 1 = i + 1 + l.length by omega, PC_per]
theorem place_beg {l : List Pt} {p : Pt} {k : Nat} (hk : k < l.length) : placeR (begL l k) p = placeR l p := by
  refine place_same (by omega) (by rw [begL_length (by omega)]; omega) (fun i => ⟨i + k, ?_⟩) (fun i => ⟨i + l.length * k - k, ?_⟩) (fun _ => ?_)
  · unfold onX; rw [PC_beg hk, PC_beg hk, show i + 1 + k = i + k + 1 by omega]
  · have : k ≤ l.length * k := Nat.le_mul_of_pos_left _ (by omega)
    unfold onX
    rw [PC_beg hk, PC_beg hk, show i + l.length * k - k + k = i + l.length * k by omega, show i + l.length * k - k + 1 + k = i + 1 + l.length * k by omega]
    have e : ∀ a, PC l (a + l.length * k) = PC l a := fun a => by rw [← PC_mod l (a + l.length * k), Nat.add_mul_mod_self_left, PC_mod]
    rw [e, e]
  · rw [begL_length (by omega)]
    have e : sm 0 l.length (flX (begL l k) p) = sm 0 l.length (fun j => flX l p (k + j)) := sm_congr (fun j _ _ => by unfold flX; rw [PC_beg hk, PC_beg hk, show j + k = k + j by omega, show j + 1 + k = k + j + 1 by omega])
    rw [e, ← sm_sh l.length k (flX l p), sm_period (flX_per l p)]
end Go.Proofs.Ytgdhgncdpmalcaa.Pure
namespace Go.Proofs.Ytgdhgncdpmalcaa.Geo
set_option linter.unusedVariables false

theorem pos_of_mul {a b : Int} (h : 0 < a * b) (hb : 0 ≤ b) : 0 < a := by
  apply Classical.byContradiction; intro k
  have := Int.mul_nonneg (show 0 ≤ -a by omega) hb
  rw [Int.neg_mul] at this; omega
theorem pos_of_mul' {a b : Int} (h : 0 < a * b) (ha : 0 ≤ a) : 0 < b := by
  rw [Int.mul_comm] at h; exact pos_of_mul h ha

def low (x y : Int) : Prop := y < 0 ∨ (y = 0 ∧ 0 < x)
instance (x y : Int) : Decidable (low x y) := by unfold low; exact inferInstance
def L (x y : Int) : Int := if low x y then 1 else 0
def cro (a b c d : Int) : Int := a * d - b * c
/-- The crossing of the step from one direction to another one over the ray to the east. -/
def cr (a b c d : Int) : Int :=
  if low a b then (if low c d then 0 else if 0 < cro a b c d then 1 else 0)
  else (if low c d then (if cro a b c d < 0 then -1 else 0) else 0)

theorem cro_swap (a b c d : Int) : cro c d a b = - cro a b c d := by unfold cro; rw [Int.mul_comm c b, Int.mul_comm d a]; omega
theorem cr_swap (a b c d : Int) : cr c d a b = - cr a b c d := by
  unfold cr; rw [cro_swap a b c d]
  repeat' split
  all_goals omega

/-- Two directions in one open half plane. -/
theorem cr_half {gx gy a b c d : Int} (h1 : 0 < gx * a + gy * b) (h2 : 0 < gx * c + gy * d) :
    cr a b c d = (if 0 < gx then L a b - L c d else 0) := by
  have key : gx * cro a b c d = (gx * a + gy * b) * d - (gx * c + gy * d) * b := by unfold cro; grind
  have aux : ∀ {p q r s : Int}, low p q → ¬ low r s → 0 < gx * p + gy * q → 0 < gx * r + gy * s →
      0 < (gx * p + gy * q) * s - (gx * r + gy * s) * q := by
    intro p q r s hl hn k1 k2
    unfold low at hl hn
    have hq : q ≤ 0 := by omega
    have hs : 0 ≤ s := by omega
    have e1 := Int.mul_nonneg (Int.le_of_lt k1) hs
    have e2 := Int.mul_nonneg (Int.le_of_lt k2) (show 0 ≤ -q by omega)
    rw [Int.mul_neg] at e2
    by_cases z : q = 0 ∧ s = 0
    · obtain ⟨rfl, rfl⟩ := z
      have hp : 0 < p := by omega
      have hr : r ≤ 0 := by omega
      simp at k1 k2
      have hg : 0 < gx := pos_of_mul k1 (Int.le_of_lt hp)
      have := Int.mul_nonneg (Int.le_of_lt hg) (show 0 ≤ -r by omega)
      rw [Int.mul_neg] at this; omega
    · rcases Classical.em (q = 0) with hq0 | hq0
      · have : 0 < s := by omega
        have := Int.mul_pos k1 this
        omega
      · have : 0 < -q := by omega
        have := Int.mul_pos k2 this
        rw [Int.mul_neg] at this; omega
  unfold cr L
  by_cases ha : low a b <;> by_cases hc : low c d
  · simp [ha, hc]
  · have k := aux ha hc h1 h2
    rw [← key] at k
    simp only [ha, hc, if_true, if_false]
    by_cases hg : 0 < gx
    · have : 0 < cro a b c d := pos_of_mul' k (Int.le_of_lt hg)
      simp [hg, this]
    · have : ¬ 0 < cro a b c d := fun h => by
        have := Int.mul_nonneg (show 0 ≤ -gx by omega) (Int.le_of_lt h)
        rw [Int.neg_mul] at this; omega
      simp [hg, this]
  · have k := aux hc ha h2 h1
    have key2 : gx * cro a b c d = - ((gx * c + gy * d) * b - (gx * a + gy * b) * d) := by rw [key]; omega
    simp only [ha, hc, if_true, if_false]
    by_cases hg : 0 < gx
    · have : cro a b c d < 0 := by
        apply Classical.byContradiction; intro h
        have := Int.mul_nonneg (Int.le_of_lt hg) (show 0 ≤ cro a b c d by omega)
        omega
      simp [hg, this]
    · have : ¬ cro a b c d < 0 := fun h => by
        have := Int.mul_nonneg (show 0 ≤ -gx by omega) (show 0 ≤ - cro a b c d by omega)
        rw [Int.neg_mul, Int.mul_neg] at this; omega
      simp [hg, this]
  · simp [ha, hc]

/-- Disjoint: a line lies between two segments, seen as one functional that is positive on all four secants. -/
def Sep (ax ay bx b_y cx cy dx dy : Int) : Prop := ∃ gx gy : Int, 0 < gx * (cx - ax) + gy * (cy - ay) ∧ 0 < gx * (dx - ax) + gy * (dy - ay) ∧ 0 < gx * (cx - bx) + gy * (cy - b_y) ∧ 0 < gx * (dx - bx) + gy * (dy - b_y)

/-- The cell: seen from the ends of one of two disjoint segments, the ends of the other one. -/
theorem cell {ax ay bx b_y cx cy dx dy : Int} (h : Sep ax ay bx b_y cx cy dx dy) :
    cr (cx - ax) (cy - ay) (dx - ax) (dy - ay) + cr (dx - ax) (dy - ay) (dx - bx) (dy - b_y) =
    cr (cx - bx) (cy - b_y) (dx - bx) (dy - b_y) + cr (cx - ax) (cy - ay) (cx - bx) (cy - b_y) := by
  obtain ⟨gx, gy, h1, h2, h3, h4⟩ := h
  rw [cr_half h1 h2, cr_half h2 h4, cr_half h3 h4, cr_half h1 h3]
  split <;> omega

/-- Not antiparallel, and none is 0: one functional is positive on both. -/
def Fwd (a b c d : Int) : Prop := ∃ gx gy : Int, 0 < gx * a + gy * b ∧ 0 < gx * c + gy * d

theorem tri {a b c d : Int} (h : Fwd a b c d) : cr a b (a + c) (b + d) + cr (a + c) (b + d) c d = cr a b c d := by
  obtain ⟨gx, gy, h1, h2⟩ := h
  have h3 : 0 < gx * (a + c) + gy * (b + d) := by rw [Int.mul_add, Int.mul_add]; omega
  rw [cr_half h1 h3, cr_half h3 h2, cr_half h1 h2]
  split <;> omega

theorem low_neg {a b : Int} (h : ¬ (a = 0 ∧ b = 0)) : low (-a) (-b) ↔ ¬ low a b := by unfold low; omega
theorem cr_neg {a b c d : Int} (h : Fwd a b c d) : cr a b c d = cr (-a) (-b) (-c) (-d) + L a b - L c d := by
  obtain ⟨gx, gy, h1, h2⟩ := h
  have h1' : 0 < (-gx) * (-a) + (-gy) * (-b) := by rw [Int.neg_mul_neg, Int.neg_mul_neg]; exact h1
  have h2' : 0 < (-gx) * (-c) + (-gy) * (-d) := by rw [Int.neg_mul_neg, Int.neg_mul_neg]; exact h2
  have ha : ¬ (a = 0 ∧ b = 0) := fun ⟨x, y⟩ => by subst x; subst y; simp at h1
  have hc : ¬ (c = 0 ∧ d = 0) := fun ⟨x, y⟩ => by subst x; subst y; simp at h2
  rw [cr_half h1 h2, cr_half h1' h2']
  have la : L (-a) (-b) = 1 - L a b := by unfold L; simp only [low_neg ha]; split <;> simp_all
  have lc : L (-c) (-d) = 1 - L c d := by unfold L; simp only [low_neg hc]; split <;> simp_all
  rw [la, lc]
  rcases Classical.em (gx = 0) with hg | hg
  · subst hg
    simp at h1 h2
    have : L a b = L c d := by
      have lw : (low a b ↔ low c d) → L a b = L c d := fun e => by unfold L; simp only [e]
      refine lw ?_
      unfold low
      rcases Int.lt_trichotomy gy 0 with g | g | g
      · have hb : b < 0 := by
          apply Classical.byContradiction; intro h
          have := Int.mul_nonneg (show 0 ≤ -gy by omega) (show 0 ≤ b by omega)
          rw [Int.neg_mul] at this; omega
        have hd : d < 0 := by
          apply Classical.byContradiction; intro h
          have := Int.mul_nonneg (show 0 ≤ -gy by omega) (show 0 ≤ d by omega)
          rw [Int.neg_mul] at this; omega
        simp [hb, hd]
      · subst g; simp at h1
      · have hb : 0 < b := by
          apply Classical.byContradiction; intro h
          have := Int.mul_nonneg (show 0 ≤ gy by omega) (show 0 ≤ -b by omega)
          rw [Int.mul_neg] at this; omega
        have hd : 0 < d := by
          apply Classical.byContradiction; intro h
          have := Int.mul_nonneg (show 0 ≤ gy by omega) (show 0 ≤ -d by omega)
          rw [Int.mul_neg] at this; omega
        omega
    simp; omega
  · by_cases g : 0 < gx
    · rw [if_pos g, if_neg (by omega)]; omega
    · rw [if_neg g, if_pos (by omega)]; omega

/-! ### Simple polygons -/
/-- A closed polygon: corners X i, Y i with the period n. Sides that are no neighbours are apart; no corner folds back. -/
structure Simple (n : Nat) (X Y : Nat → Int) : Prop where
  n3 : 3 ≤ n
  px : ∀ i, X (i + n) = X i
  py : ∀ i, Y (i + n) = Y i
  sep : ∀ i j, i + 2 ≤ j → j + 2 ≤ i + n → Sep (X i) (Y i) (X (i + 1)) (Y (i + 1)) (X j) (Y j) (X (j + 1)) (Y (j + 1))
  fwd : ∀ i, Fwd (X (i + 1) - X i) (Y (i + 1) - Y i) (X (i + 2) - X (i + 1)) (Y (i + 2) - Y (i + 1))

/-- The crossing of side j, seen from a point. -/
def side (X Y : Nat → Int) (x y : Int) (j : Nat) : Int := cr (X j - x) (Y j - y) (X (j + 1) - x) (Y (j + 1) - y)
/-- Seen from the corner i: all sides that do not touch it. -/
def open_ (n : Nat) (X Y : Nat → Int) (i : Nat) : Int := sm (i + 1) (n - 2) (side X Y (X i) (Y i))

theorem Fwd.neg {a b c d : Int} (h : Fwd a b c d) : Fwd (-a) (-b) (-c) (-d) := by
  obtain ⟨gx, gy, h1, h2⟩ := h
  exact ⟨-gx, -gy, by rw [Int.neg_mul_neg, Int.neg_mul_neg]; exact h1, by rw [Int.neg_mul_neg, Int.neg_mul_neg]; exact h2⟩
theorem tri' {a b c d s t : Int} (h : Fwd a b c d) (hs : s = a + c) (ht : t = b + d) : cr a b s t + cr s t c d = cr a b c d := by subst hs; subst ht; exact tri h
theorem trin {a b c d s t : Int} (h : Fwd a b c d) (hs : s = -a - c) (ht : t = -b - d) : cr (-a) (-b) s t + cr s t (-c) (-d) = cr (-a) (-b) (-c) (-d) :=
  tri' h.neg (by omega) (by omega)

theorem open_step {n : Nat} {X Y : Nat → Int} (h : Simple n X Y) (i : Nat) :
    open_ n X Y (i + 2) + cr (X (i + 2) - X (i + 1)) (Y (i + 2) - Y (i + 1)) (X (i + 3) - X (i + 2)) (Y (i + 3) - Y (i + 2)) =
    open_ n X Y (i + 1) + cr (-(X (i + 1) - X i)) (-(Y (i + 1) - Y i)) (-(X (i + 2) - X (i + 1))) (-(Y (i + 2) - Y (i + 1))) := by
  obtain ⟨m, rfl⟩ : ∃ m, n = m + 3 := ⟨n - 3, by have := h.n3; omega⟩
  have e1 : open_ (m + 3) X Y (i + 1) = side X Y (X (i + 1)) (Y (i + 1)) (i + 2) + sm (i + 3) m (side X Y (X (i + 1)) (Y (i + 1))) := sm_first (i + 2) m _
  have e2 : open_ (m + 3) X Y (i + 2) = sm (i + 3) m (side X Y (X (i + 2)) (Y (i + 2))) + side X Y (X (i + 2)) (Y (i + 2)) (i + 3 + m) := rfl
  have c := sm_cells (lo := i + 3) (k := m) (f := side X Y (X (i + 1)) (Y (i + 1))) (g := side X Y (X (i + 2)) (Y (i + 2)))
    (h := fun j => cr (X j - X (i + 1)) (Y j - Y (i + 1)) (X j - X (i + 2)) (Y j - Y (i + 2))) (fun j a b => cell (h.sep (i + 1) j (by omega) (by omega)))
  have p1 : X (i + 3 + m) = X i := by rw [show i + 3 + m = i + (m + 3) from by omega]; exact h.px i
  have p2 : Y (i + 3 + m) = Y i := by rw [show i + 3 + m = i + (m + 3) from by omega]; exact h.py i
  have p3 : X (i + 3 + m + 1) = X (i + 1) := by rw [show i + 3 + m + 1 = i + 1 + (m + 3) from by omega]; exact h.px _
  have p4 : Y (i + 3 + m + 1) = Y (i + 1) := by rw [show i + 3 + m + 1 = i + 1 + (m + 3) from by omega]; exact h.py _
  have t1 := trin (h.fwd i) (s := X i - X (i + 2)) (t := Y i - Y (i + 2)) (by omega) (by omega)
  have t2 := tri' (h.fwd (i + 1)) (s := X (i + 3) - X (i + 1)) (t := Y (i + 3) - Y (i + 1)) (by simp only [Nat.add_assoc, Nat.reduceAdd]; omega) (by simp only [Nat.add_assoc, Nat.reduceAdd]; omega)
  unfold side at e1 e2
  simp only [p1, p2, p3, p4] at e2 c
  simp only [Nat.add_assoc, Nat.reduceAdd] at e1 e2 c t1 t2
  rw [show -(X (i + 1) - X i) = X i - X (i + 1) from by omega, show -(Y (i + 1) - Y i) = Y i - Y (i + 1) from by omega, show -(X (i + 2) - X (i + 1)) = X (i + 1) - X (i + 2) from by omega, show -(Y (i + 2) - Y (i + 1)) = Y (i + 1) - Y (i + 2) from by omega] at t1 ⊢
  unfold side at c
  omega

/-- How often the polygon goes round what lies just to the left of side i + 1. -/
def wl (n : Nat) (X Y : Nat → Int) (i : Nat) : Int :=
  open_ n X Y (i + 1) + cr (-(X (i + 1) - X i)) (-(Y (i + 1) - Y i)) (-(X (i + 2) - X (i + 1))) (-(Y (i + 2) - Y (i + 1))) + 1 - L (X (i + 2) - X (i + 1)) (Y (i + 2) - Y (i + 1))

theorem wl_step {n : Nat} {X Y : Nat → Int} (h : Simple n X Y) (i : Nat) : wl n X Y (i + 1) = wl n X Y i := by
  have a := open_step h i
  have b := cr_neg (h.fwd (i + 1))
  unfold wl
  simp only [Nat.add_assoc, Nat.reduceAdd] at b ⊢
  omega
theorem wl_all {n : Nat} {X Y : Nat → Int} (h : Simple n X Y) (i : Nat) : wl n X Y i = wl n X Y 0 := by
  induction i with
  | zero => rfl
  | succ i ih => rw [wl_step h, ih]

/-- A corner from which no other one is low. -/
theorem lowest (X Y : Nat → Int) (k : Nat) : ∃ m, m ≤ k ∧ ∀ j, j ≤ k → ¬ low (X j - X m) (Y j - Y m) := by
  induction k with
  | zero => exact ⟨0, Nat.le_refl _, fun j hj => by obtain rfl : j = 0 := by omega
                                                    unfold low; omega⟩
  | succ k ih =>
    obtain ⟨m, hm, hl⟩ := ih
    by_cases c : low (X (k + 1) - X m) (Y (k + 1) - Y m)
    · refine ⟨k + 1, Nat.le_refl _, fun j hj => ?_⟩
      by_cases e : j = k + 1
      · subst e; unfold low; omega
      · have := hl j (by omega)
        unfold low at *; omega
    · refine ⟨m, by omega, fun j hj => ?_⟩
      by_cases e : j = k + 1
      · subst e; exact c
      · exact hl j (by omega)

theorem mod_eq {n : Nat} {X : Nat → Int} (px : ∀ i, X (i + n) = X i) (i k : Nat) : X (i + k * n) = X i := by
  induction k with
  | zero => simp
  | succ k ih => rw [Nat.succ_mul, ← Nat.add_assoc, px, ih]
theorem mod_eq' {n : Nat} {X : Nat → Int} (px : ∀ i, X (i + n) = X i) (i : Nat) : X i = X (i % n) := by
  have := mod_eq px (i % n) (i / n)
  rw [Nat.mul_comm, Nat.mod_add_div] at this
  exact this

theorem Simple.edge {n : Nat} {X Y : Nat → Int} (h : Simple n X Y) (i : Nat) : ¬ (X (i + 1) - X i = 0 ∧ Y (i + 1) - Y i = 0) := fun ⟨a, b⟩ => by
  obtain ⟨gx, gy, h1, _⟩ := h.fwd i
  rw [a, b] at h1; simp at h1

/-- The number is 1 or 0. -/
theorem wl_01 {n : Nat} {X Y : Nat → Int} (h : Simple n X Y) : wl n X Y 0 = 1 ∨ wl n X Y 0 = 0 := by
  have n3 := h.n3
  obtain ⟨m, hm, hl⟩ := lowest X Y (n - 1)
  have all : ∀ j, ¬ low (X j - X m) (Y j - Y m) := fun j => by
    rw [mod_eq' h.px j, mod_eq' h.py j]
    exact hl _ (by have := Nat.mod_lt j (show 0 < n by omega); omega)
  obtain ⟨i, hi⟩ : ∃ i, X (i + 1) = X m ∧ Y (i + 1) = Y m := ⟨m + (n - 1), by rw [show m + (n - 1) + 1 = m + n from by omega]; exact ⟨h.px m, h.py m⟩⟩
  rw [← wl_all h i]
  have all' : ∀ j, ¬ low (X j - X (i + 1)) (Y j - Y (i + 1)) := fun j => by rw [hi.1, hi.2]; exact all j
  have o : open_ n X Y (i + 1) = 0 := sm_zero (fun j _ _ => by unfold side cr; rw [if_neg (all' _), if_neg (all' _)])
  have l : L (X (i + 2) - X (i + 1)) (Y (i + 2) - Y (i + 1)) = 0 := by unfold L; rw [if_neg (all' _)]
  have ne := h.edge (i + 1)
  simp only [Nat.add_assoc, Nat.reduceAdd] at ne
  have lo2 : low (-(X (i + 2) - X (i + 1))) (-(Y (i + 2) - Y (i + 1))) := (low_neg ne).2 (all' _)
  have lo1 : ¬ low (-(X (i + 1) - X i)) (-(Y (i + 1) - Y i)) := by
    rw [show -(X (i + 1) - X i) = X i - X (i + 1) from by omega, show -(Y (i + 1) - Y i) = Y i - Y (i + 1) from by omega]; exact all' _
  unfold wl
  rw [o, l]
  unfold cr
  rw [if_neg lo1, if_pos lo2]
  split <;> omega

/-! ### A point on a side -/
theorem cr_zero {a b c d : Int} (h : cro a b c d = 0) : cr a b c d = 0 := by
  unfold cr; rw [h]; simp
theorem low_scale {k a b : Int} (hk : 0 < k) : low (k * a) (k * b) ↔ low a b := by
  unfold low
  have e1 : k * b < 0 ↔ b < 0 := by
    constructor
    · intro h; apply Classical.byContradiction; intro c
      have := Int.mul_nonneg (Int.le_of_lt hk) (show 0 ≤ b by omega); omega
    · intro h; have := Int.mul_pos hk (show 0 < -b by omega); rw [Int.mul_neg] at this; omega
  have e2 : k * b = 0 ↔ b = 0 := by
    constructor
    · intro h; rcases Int.mul_eq_zero.1 h with c | c <;> omega
    · rintro rfl; simp
  have e3 : 0 < k * a ↔ 0 < a := by
    constructor
    · intro h; exact pos_of_mul' h (Int.le_of_lt hk)
    · intro h; exact Int.mul_pos hk h
  rw [e1, e2, e3]
theorem cro_scale_r {k a b c d : Int} : cro a b (k * c) (k * d) = k * cro a b c d := by unfold cro; grind
theorem sign_scale {k x : Int} (hk : 0 < k) : (0 < k * x ↔ 0 < x) ∧ (k * x < 0 ↔ x < 0) := by
  constructor
  · constructor
    · intro h; exact pos_of_mul' h (Int.le_of_lt hk)
    · intro h; exact Int.mul_pos hk h
  · constructor
    · intro h; apply Classical.byContradiction; intro c
      have := Int.mul_nonneg (Int.le_of_lt hk) (show 0 ≤ x by omega); omega
    · intro h; have := Int.mul_pos hk (show 0 < -x by omega); rw [Int.mul_neg] at this; omega
theorem cr_scale_r {k a b c d : Int} (hk : 0 < k) : cr a b (k * c) (k * d) = cr a b c d := by
  unfold cr; rw [cro_scale_r]; simp only [low_scale hk, (sign_scale hk).1, (sign_scale hk).2]
theorem cr_scale_l {k a b c d : Int} (hk : 0 < k) : cr (k * a) (k * b) c d = cr a b c d := by
  rw [cr_swap c d, cr_scale_r hk, cr_swap]; omega
theorem cr_same_r {k m a b c d c' d' : Int} (hk : 0 < k) (hm : 0 < m) (h1 : k * c' = m * c) (h2 : k * d' = m * d) : cr a b c' d' = cr a b c d := by
  rw [← cr_scale_r hk, h1, h2, cr_scale_r hm]
theorem L_scale {k a b : Int} (hk : 0 < k) : L (k * a) (k * b) = L a b := by unfold L; simp only [low_scale hk]

/-- Seen from a point c inside side i + 1: all the other sides. -/
def rest (n : Nat) (X Y : Nat → Int) (i : Nat) (cx cy : Int) : Int := sm (i + 2) (n - 1) (side X Y cx cy)

/-- A functional that is positive from both ends of a side is so from a point between. -/
theorem mid_pos {al be gx gy ax ay bx b_y cx cy zx zy : Int} (ha : 0 < al) (hb : 0 < be) (hx : (al + be) * cx = al * ax + be * bx) (hy : (al + be) * cy = al * ay + be * b_y)
    (h1 : 0 < gx * (zx - ax) + gy * (zy - ay)) (h2 : 0 ≤ gx * (zx - bx) + gy * (zy - b_y)) : 0 < gx * (zx - cx) + gy * (zy - cy) := by
  have e : (al + be) * (gx * (zx - cx) + gy * (zy - cy)) = al * (gx * (zx - ax) + gy * (zy - ay)) + be * (gx * (zx - bx) + gy * (zy - b_y)) := by grind
  have p1 := Int.mul_pos ha h1
  have p2 := Int.mul_nonneg (Int.le_of_lt hb) h2
  exact pos_of_mul' (a := al + be) (by rw [e]; omega) (by omega)

theorem rest_eq {n : Nat} {X Y : Nat → Int} (h : Simple n X Y) {i : Nat} {al be cx cy : Int} (ha : 0 < al) (hb : 0 < be)
    (hx : (al + be) * cx = al * X (i + 1) + be * X (i + 2)) (hy : (al + be) * cy = al * Y (i + 1) + be * Y (i + 2)) :
    wl n X Y i = rest n X Y i cx cy + 1 - L (X (i + 2) - X (i + 1)) (Y (i + 2) - Y (i + 1)) := by
  obtain ⟨m, rfl⟩ : ∃ m, n = m + 3 := ⟨n - 3, by have := h.n3; omega⟩
  have e1 : open_ (m + 3) X Y (i + 1) = sm (i + 2) (m + 1) (side X Y (X (i + 1)) (Y (i + 1))) := rfl
  have e2 : rest (m + 3) X Y i cx cy = sm (i + 2) (m + 1) (side X Y cx cy) + side X Y cx cy (i + 2 + (m + 1)) := rfl
  have c := sm_cells (lo := i + 2) (k := m + 1) (f := side X Y (X (i + 1)) (Y (i + 1))) (g := side X Y cx cy)
    (h := fun j => cr (X j - X (i + 1)) (Y j - Y (i + 1)) (X j - cx) (Y j - cy)) (fun j a b => cell (by
      by_cases e : j = i + 2
      · subst e
        obtain ⟨gx, gy, g1, g2⟩ := h.fwd (i + 1)
        simp only [Nat.add_assoc, Nat.reduceAdd] at g1 g2 ⊢
        have s1 : gx * (X (i + 3) - X (i + 1)) + gy * (Y (i + 3) - Y (i + 1)) = (gx * (X (i + 2) - X (i + 1)) + gy * (Y (i + 2) - Y (i + 1))) + (gx * (X (i + 3) - X (i + 2)) + gy * (Y (i + 3) - Y (i + 2))) := by grind
        exact ⟨gx, gy, g1, by omega, mid_pos ha hb hx hy g1 (by simp), mid_pos ha hb hx hy (by omega) (by omega)⟩
      · obtain ⟨gx, gy, g1, g2, g3, g4⟩ := h.sep (i + 1) j (by omega) (by omega)
        simp only [Nat.add_assoc, Nat.reduceAdd] at g3 g4
        exact ⟨gx, gy, g1, g2, mid_pos ha hb hx hy g1 (Int.le_of_lt g3), mid_pos ha hb hx hy g2 (Int.le_of_lt g4)⟩))
  have p1 : X (i + 2 + (m + 1)) = X i := by rw [show i + 2 + (m + 1) = i + (m + 3) from by omega]; exact h.px i
  have p2 : Y (i + 2 + (m + 1)) = Y i := by rw [show i + 2 + (m + 1) = i + (m + 3) from by omega]; exact h.py i
  have p3 : X (i + 2 + (m + 1) + 1) = X (i + 1) := by rw [show i + 2 + (m + 1) + 1 = i + 1 + (m + 3) from by omega]; exact h.px _
  have p4 : Y (i + 2 + (m + 1) + 1) = Y (i + 1) := by rw [show i + 2 + (m + 1) + 1 = i + 1 + (m + 3) from by omega]; exact h.py _
  have s2 : side X Y cx cy (i + 2 + (m + 1)) = cr (X i - cx) (Y i - cy) (X (i + 1) - cx) (Y (i + 1) - cy) := by unfold side; rw [p1, p2, p3, p4]
  rw [s2] at e2
  simp only [p1, p2] at c
  have z : cr (X (i + 2) - X (i + 1)) (Y (i + 2) - Y (i + 1)) (X (i + 2) - cx) (Y (i + 2) - cy) = 0 := by
    apply cr_zero; unfold cro
    have : (al + be) * ((X (i + 2) - X (i + 1)) * (Y (i + 2) - cy) - (Y (i + 2) - Y (i + 1)) * (X (i + 2) - cx)) = 0 := by grind
    rcases Int.mul_eq_zero.1 this with q | q <;> omega
  have fw : Fwd (X i - X (i + 1)) (Y i - Y (i + 1)) (X (i + 1) - cx) (Y (i + 1) - cy) := by
    obtain ⟨gx, gy, g1, g2⟩ := (h.fwd i).neg
    refine ⟨gx, gy, by rw [show X i - X (i + 1) = -(X (i + 1) - X i) from by omega, show Y i - Y (i + 1) = -(Y (i + 1) - Y i) from by omega]; exact g1, ?_⟩
    have e : (al + be) * (gx * (X (i + 1) - cx) + gy * (Y (i + 1) - cy)) = be * (gx * -(X (i + 2) - X (i + 1)) + gy * -(Y (i + 2) - Y (i + 1))) := by grind
    exact pos_of_mul' (a := al + be) (by rw [e]; exact Int.mul_pos hb g2) (by omega)
  have t1 := tri' fw (s := X i - cx) (t := Y i - cy) (by omega) (by omega)
  have sc : cr (X i - X (i + 1)) (Y i - Y (i + 1)) (X (i + 1) - cx) (Y (i + 1) - cy) = cr (X i - X (i + 1)) (Y i - Y (i + 1)) (-(X (i + 2) - X (i + 1))) (-(Y (i + 2) - Y (i + 1))) :=
    cr_same_r (k := al + be) (m := be) (by omega) hb (by grind) (by grind)
  unfold wl
  rw [show -(X (i + 1) - X i) = X i - X (i + 1) from by omega, show -(Y (i + 1) - Y i) = Y i - Y (i + 1) from by omega, ← sc]
  omega

/-- How often the polygon goes round a point. -/
def wn (n : Nat) (X Y : Nat → Int) (x y : Int) : Int := sm 0 n (side X Y x y)
theorem side_period {n : Nat} {X Y : Nat → Int} (px : ∀ i, X (i + n) = X i) (py : ∀ i, Y (i + n) = Y i) (x y : Int) (i : Nat) : side X Y x y (i + n) = side X Y x y i := by
  unfold side; rw [show i + n + 1 = i + 1 + n from by omega, px, py, px, py]
theorem wn_from {n : Nat} {X Y : Nat → Int} (px : ∀ i, X (i + n) = X i) (py : ∀ i, Y (i + n) = Y i) (x y : Int) (lo : Nat) : wn n X Y x y = sm lo n (side X Y x y) :=
  (sm_period (side_period px py x y) lo).symm

/-- Nothing but side i + 1 comes between a point and a point c inside that side, to the east at the same height. -/
theorem wn_near {n : Nat} {X Y : Nat → Int} (h : Simple n X Y) {i : Nat} {al be cx qx qy : Int} (ha : 0 < al) (hb : 0 < be)
    (hx : (al + be) * cx = al * X (i + 1) + be * X (i + 2)) (hy : (al + be) * qy = al * Y (i + 1) + be * Y (i + 2)) (hq : qx < cx)
    (g1 : Y (i + 1) ≠ qy) (g2 : Y (i + 2) ≠ qy)
    (hs : ∀ j, i + 2 ≤ j → j < i + 1 + n → Sep qx qy cx qy (X j) (Y j) (X (j + 1)) (Y (j + 1))) :
    (Y (i + 1) < Y (i + 2) → wn n X Y qx qy = wl n X Y i) ∧ (Y (i + 2) < Y (i + 1) → wn n X Y qx qy = wl n X Y i - 1) := by
  have n3 := h.n3
  have e := rest_eq h ha hb hx hy
  obtain ⟨m, rfl⟩ : ∃ m, n = m + 1 := ⟨n - 1, by omega⟩
  have e1 : wn (m + 1) X Y qx qy = sm (i + 2) m (side X Y qx qy) + side X Y qx qy (i + 2 + m) := wn_from h.px h.py qx qy (i + 2)
  have e2 : rest (m + 1) X Y i cx qy = sm (i + 2) m (side X Y cx qy) := rfl
  have c := sm_cells (lo := i + 2) (k := m) (f := side X Y qx qy) (g := side X Y cx qy)
    (h := fun j => cr (X j - qx) (Y j - qy) (X j - cx) (Y j - qy)) (fun j a b => cell (hs j a (by omega)))
  have p1 : X (i + 2 + m) = X (i + 1) := by rw [show i + 2 + m = i + 1 + (m + 1) from by omega]; exact h.px _
  have p2 : Y (i + 2 + m) = Y (i + 1) := by rw [show i + 2 + m = i + 1 + (m + 1) from by omega]; exact h.py _
  have p3 : X (i + 2 + m + 1) = X (i + 2) := by rw [show i + 2 + m + 1 = i + 2 + (m + 1) from by omega]; exact h.px _
  have p4 : Y (i + 2 + m + 1) = Y (i + 2) := by rw [show i + 2 + m + 1 = i + 2 + (m + 1) from by omega]; exact h.py _
  simp only [p1, p2] at c
  have z : ∀ u v w : Int, w ≠ 0 → cr u w v w = 0 := by
    intro u v w hw
    have : low u w ↔ low v w := by unfold low; omega
    unfold cr; simp only [this]
    split <;> rfl
  rw [z _ _ _ (by omega), z _ _ _ (by omega)] at c
  have s : side X Y qx qy (i + 2 + m) = cr (X (i + 1) - qx) (Y (i + 1) - qy) (X (i + 2) - qx) (Y (i + 2) - qy) := by unfold side; rw [p1, p2, p3, p4]
  rw [s] at e1
  -- the sign of the cross product
  have k : (al + be) * cro (X (i + 1) - qx) (Y (i + 1) - qy) (X (i + 2) - qx) (Y (i + 2) - qy) = (al + be) * ((cx - qx) * (Y (i + 2) - Y (i + 1))) := by unfold cro; grind
  have k' : cro (X (i + 1) - qx) (Y (i + 1) - qy) (X (i + 2) - qx) (Y (i + 2) - qy) = (cx - qx) * (Y (i + 2) - Y (i + 1)) := by
    rcases Int.mul_eq_mul_left_iff (show al + be ≠ 0 by omega) |>.1 k with q
    exact q
  constructor
  · intro up
    have b1 : Y (i + 1) < qy ∧ qy < Y (i + 2) := by
      constructor
      · apply Classical.byContradiction; intro c
        have := Int.mul_pos hb (show 0 < Y (i + 2) - qy by omega)
        have := Int.mul_nonneg (Int.le_of_lt ha) (show 0 ≤ Y (i + 1) - qy by omega)
        grind
      · apply Classical.byContradiction; intro c
        have := Int.mul_pos ha (show 0 < qy - Y (i + 1) by omega)
        have := Int.mul_nonneg (Int.le_of_lt hb) (show 0 ≤ qy - Y (i + 2) by omega)
        grind
    have v : cr (X (i + 1) - qx) (Y (i + 1) - qy) (X (i + 2) - qx) (Y (i + 2) - qy) = 1 := by
      unfold cr
      rw [if_pos (by unfold low; omega), if_neg (by unfold low; omega), if_pos]
      rw [k']; exact Int.mul_pos (by omega) (by omega)
    have l : L (X (i + 2) - X (i + 1)) (Y (i + 2) - Y (i + 1)) = 0 := by unfold L; rw [if_neg (by unfold low; omega)]
    omega
  · intro dn
    have b1 : Y (i + 2) < qy ∧ qy < Y (i + 1) := by
      constructor
      · apply Classical.byContradiction; intro c
        have := Int.mul_pos ha (show 0 < Y (i + 1) - qy by omega)
        have := Int.mul_nonneg (Int.le_of_lt hb) (show 0 ≤ Y (i + 2) - qy by omega)
        grind
      · apply Classical.byContradiction; intro c
        have := Int.mul_pos hb (show 0 < qy - Y (i + 2) by omega)
        have := Int.mul_nonneg (Int.le_of_lt ha) (show 0 ≤ qy - Y (i + 1) by omega)
        grind
    have v : cr (X (i + 1) - qx) (Y (i + 1) - qy) (X (i + 2) - qx) (Y (i + 2) - qy) = -1 := by
      unfold cr
      rw [if_neg (by unfold low; omega), if_pos (by unfold low; omega), if_pos]
      rw [k']
      have := Int.mul_pos (show 0 < cx - qx by omega) (show 0 < Y (i + 1) - Y (i + 2) by omega)
      have e3 : (cx - qx) * (Y (i + 1) - Y (i + 2)) = - ((cx - qx) * (Y (i + 2) - Y (i + 1))) := by rw [← Int.mul_neg]; congr 1; omega
      omega
    have l : L (X (i + 2) - X (i + 1)) (Y (i + 2) - Y (i + 1)) = 1 := by unfold L; rw [if_pos (by unfold low; omega)]
    omega

end Go.Proofs.Ytgdhgncdpmalcaa.Geo
namespace Go.Proofs.Ytgdhgncdpmalcaa.Geo
open Go.Proofs.Ytgdhgncdpmalcaa.Pure
set_option linter.unusedVariables false
theorem Sep.swap {ax ay bx b_y cx cy dx dy : Int} (h : Sep cx cy dx dy ax ay bx b_y) : Sep ax ay bx b_y cx cy dx dy := by
  obtain ⟨gx, gy, h1, h2, h3, h4⟩ := h
  refine ⟨-gx, -gy, ?_, ?_, ?_, ?_⟩
  · rw [show -gx * (cx - ax) + -gy * (cy - ay) = gx * (ax - cx) + gy * (ay - cy) by grind]; exact h1
  · rw [show -gx * (dx - ax) + -gy * (dy - ay) = gx * (ax - dx) + gy * (ay - dy) by grind]; exact h3
  · rw [show -gx * (cx - bx) + -gy * (cy - b_y) = gx * (bx - cx) + gy * (b_y - cy) by grind]; exact h2
  · rw [show -gx * (dx - bx) + -gy * (dy - b_y) = gx * (bx - dx) + gy * (b_y - dy) by grind]; exact h4
theorem Sep.swap2 {ax ay bx b_y cx cy dx dy : Int} (h : Sep ax ay bx b_y dx dy cx cy) : Sep ax ay bx b_y cx cy dx dy := by
  obtain ⟨gx, gy, h1, h2, h3, h4⟩ := h
  exact ⟨gx, gy, h2, h1, h4, h3⟩
theorem Sep.swap1 {ax ay bx b_y cx cy dx dy : Int} (h : Sep bx b_y ax ay cx cy dx dy) : Sep ax ay bx b_y cx cy dx dy := by
  obtain ⟨gx, gy, h1, h2, h3, h4⟩ := h
  exact ⟨gx, gy, h3, h4, h1, h2⟩
theorem between {D N p r : Int} (hD : 0 < D) (h : r * D = p * N) (h0 : 0 ≤ N) (h1 : N ≤ D) : min 0 p ≤ r ∧ r ≤ max 0 p := by
  rcases Int.le_total 0 p with hp | hp
  · have a := Int.mul_nonneg hp h0
    have b := Int.mul_le_mul_of_nonneg_left h1 hp
    have r0 : 0 ≤ r := Int.le_of_mul_le_mul_right (a := D) (by rw [Int.zero_mul]; omega) hD
    have r1 : r ≤ p := Int.le_of_mul_le_mul_right (a := D) (by omega) hD
    omega
  · have hp' : 0 ≤ -p := by omega
    have a := Int.mul_nonneg hp' h0
    have b := Int.mul_le_mul_of_nonneg_left h1 hp'
    rw [Int.neg_mul] at a b
    rw [Int.neg_mul] at b
    have r0 : r ≤ 0 := Int.le_of_mul_le_mul_right (a := D) (by rw [Int.zero_mul]; omega) hD
    have r1 : p ≤ r := Int.le_of_mul_le_mul_right (a := D) (by omega) hD
    omega
theorem sq_nonneg (p : Int) : 0 ≤ p * p := by
  rcases Int.le_total 0 p with h | h
  · exact Int.mul_nonneg h h
  · have := Int.mul_nonneg (show 0 ≤ -p by omega) (show 0 ≤ -p by omega)
    rw [Int.neg_mul_neg] at this; exact this
theorem sq_pos {p : Int} (h : p ≠ 0) : 0 < p * p := by
  have := sq_nonneg p
  have : p * p ≠ 0 := fun e => by rcases Int.mul_eq_zero.1 e with q | q <;> exact h q
  omega
theorem norm_pos {p q : Int} (h : ¬ (p = 0 ∧ q = 0)) : 0 < p * p + q * q := by
  have a := sq_nonneg p; have b := sq_nonneg q
  by_cases hp : p = 0
  · have := sq_pos (p := q) (fun e => h ⟨hp, e⟩); omega
  · have := sq_pos hp; omega
/-- A point on the line but not on the segment lies before its beginning or behind its end. -/
theorem line_off {ax ay p q r s : Int} (h : ¬ (p = 0 ∧ q = 0)) (hc : p * s - q * r = 0) (hn : ¬ onP ax ay (ax + p) (ay + q) (ax + r) (ay + s)) :
    p * r + q * s < 0 ∨ p * p + q * q < p * r + q * s := by
  have hD := norm_pos h
  apply Classical.byContradiction; intro k
  have k0 : 0 ≤ p * r + q * s := by omega
  have k1 : p * r + q * s ≤ p * p + q * q := by omega
  have b1 := between hD (p := p) (r := r) (by grind) k0 k1
  have b2 := between hD (p := q) (r := s) (by grind) k0 k1
  apply hn
  unfold onP crs
  refine ⟨?_, ?_⟩
  · rw [show ax + p - ax = p by omega, show ay + s - ay = s by omega, show ay + q - ay = q by omega, show ax + r - ax = r by omega]; exact hc
  · omega
theorem big {K a x : Int} (hK : a.natAbs < K) (hx : 1 ≤ x) : 0 < K * x + a := by
  have : K * 1 ≤ K * x := Int.mul_le_mul_of_nonneg_left hx (by omega)
  omega
/-- c and d on one side of the line a b (or on it), and no point of one segment on the other one. -/
theorem sep0 {ax ay p q r s t z : Int} (h : ¬ (p = 0 ∧ q = 0)) (s1 : 0 ≤ p * s - q * r) (s2 : 0 ≤ p * z - q * t)
    (n1 : ¬ onP ax ay (ax + p) (ay + q) (ax + r) (ay + s)) (n2 : ¬ onP ax ay (ax + p) (ay + q) (ax + t) (ay + z)) (n3 : ¬ onP (ax + r) (ay + s) (ax + t) (ay + z) ax ay) :
    Sep ax ay (ax + p) (ay + q) (ax + r) (ay + s) (ax + t) (ay + z) := by
  have key : ∀ {r s t z : Int}, p * s - q * r = 0 → 0 < p * z - q * t → ¬ onP ax ay (ax + p) (ay + q) (ax + r) (ay + s) → Sep ax ay (ax + p) (ay + q) (ax + r) (ay + s) (ax + t) (ay + z) := by
    intro r s t z e1 e2 n1
    have : ∃ f : Int, 0 < f * (p * r + q * s) ∧ 0 < f * (p * (r - p) + q * (s - q)) := by
      have e : p * (r - p) + q * (s - q) = p * r + q * s - (p * p + q * q) := by grind
      have hD := norm_pos h
      rcases line_off h e1 n1 with k | k
      · exact ⟨-1, by omega, by omega⟩
      · exact ⟨1, by omega, by omega⟩
    obtain ⟨f, f1, f2⟩ := this
    refine ⟨((f * (p * t + q * z)).natAbs + (f * (p * (t - p) + q * (z - q))).natAbs + 1 : Nat) * -q + f * p, ((f * (p * t + q * z)).natAbs + (f * (p * (t - p) + q * (z - q))).natAbs + 1 : Nat) * p + f * q, ?_, ?_, ?_, ?_⟩
    all_goals generalize hK : (((f * (p * t + q * z)).natAbs + (f * (p * (t - p) + q * (z - q))).natAbs + 1 : Nat) : Int) = K
    · rw [show (K * -q + f * p) * (ax + r - ax) + (K * p + f * q) * (ay + s - ay) = K * (p * s - q * r) + f * (p * r + q * s) by grind, e1]; omega
    · rw [show (K * -q + f * p) * (ax + t - ax) + (K * p + f * q) * (ay + z - ay) = K * (p * z - q * t) + f * (p * t + q * z) by grind]
      exact big (by omega) (by omega)
    · rw [show (K * -q + f * p) * (ax + r - (ax + p)) + (K * p + f * q) * (ay + s - (ay + q)) = K * (p * s - q * r) + f * (p * (r - p) + q * (s - q)) by grind, e1]; omega
    · rw [show (K * -q + f * p) * (ax + t - (ax + p)) + (K * p + f * q) * (ay + z - (ay + q)) = K * (p * z - q * t) + f * (p * (t - p) + q * (z - q)) by grind]
      exact big (by omega) (by omega)
  by_cases c1 : p * s - q * r = 0
  · by_cases c2 : p * z - q * t = 0
    · have hD := norm_pos h
      have e1 : p * (r - p) + q * (s - q) = p * r + q * s - (p * p + q * q) := by grind
      have e2 : p * (t - p) + q * (z - q) = p * t + q * z - (p * p + q * q) := by grind
      have opp : ∀ {a b : Int}, a = p * r + q * s → b = p * t + q * z → (a < 0 ∧ 0 < b ∨ 0 < a ∧ b < 0) → False := by
        intro a b ha hb hab
        have m : (p * p + q * q) * (r * t + s * z) = a * b := by rw [ha, hb]; grind
        have mn : a * b < 0 := by
          rcases hab with ⟨x, y⟩ | ⟨x, y⟩
          · have := Int.mul_pos (show 0 < -a by omega) y; rw [Int.neg_mul] at this; omega
          · have := Int.mul_pos x (show 0 < -b by omega); rw [Int.mul_neg] at this; omega
        have vw : r * t + s * z < 0 := by
          apply Classical.byContradiction; intro k
          have := Int.mul_nonneg (Int.le_of_lt hD) (show 0 ≤ r * t + s * z by omega); omega
        have ne : ¬ (t - r = 0 ∧ z - s = 0) := fun ⟨x, y⟩ => by
          have : t = r := by omega
          have : z = s := by omega
          subst t; subst z
          have := sq_nonneg r; have := sq_nonneg s; omega
        have cz : (t - r) * -s - (z - s) * -r = 0 := by
          have : (p * p + q * q) * ((t - r) * -s - (z - s) * -r) = 0 := by grind
          rcases Int.mul_eq_zero.1 this with x | x <;> omega
        have n3' : ¬ onP (ax + r) (ay + s) (ax + r + (t - r)) (ay + s + (z - s)) (ax + r + -r) (ay + s + -s) := by
          rw [show ax + r + (t - r) = ax + t by omega, show ay + s + (z - s) = ay + z by omega, show ax + r + -r = ax by omega, show ay + s + -s = ay by omega]; exact n3
        have v0 := sq_nonneg r; have v1 := sq_nonneg s; have v2 := sq_nonneg t; have v3 := sq_nonneg z
        rcases line_off ne cz n3' with k | k
        · rw [show (t - r) * -r + (z - s) * -s = r * r + s * s - (r * t + s * z) by grind] at k; omega
        · rw [show (t - r) * -r + (z - s) * -s = r * r + s * s - (r * t + s * z) by grind, show (t - r) * (t - r) + (z - s) * (z - s) = r * r + s * s + (t * t + z * z) - 2 * (r * t + s * z) by grind] at k; omega
      rcases line_off h c1 n1 with k1 | k1
      · rcases line_off h c2 n2 with k2 | k2
        · refine ⟨-p, -q, ?_, ?_, ?_, ?_⟩
          · rw [show -p * (ax + r - ax) + -q * (ay + s - ay) = -(p * r + q * s) by grind]; omega
          · rw [show -p * (ax + t - ax) + -q * (ay + z - ay) = -(p * t + q * z) by grind]; omega
          · rw [show -p * (ax + r - (ax + p)) + -q * (ay + s - (ay + q)) = -(p * (r - p) + q * (s - q)) by grind]; omega
          · rw [show -p * (ax + t - (ax + p)) + -q * (ay + z - (ay + q)) = -(p * (t - p) + q * (z - q)) by grind]; omega
        · exact (opp rfl rfl (.inl ⟨k1, by omega⟩)).elim
      · rcases line_off h c2 n2 with k2 | k2
        · exact (opp rfl rfl (.inr ⟨by omega, k2⟩)).elim
        · refine ⟨p, q, ?_, ?_, ?_, ?_⟩
          · rw [show p * (ax + r - ax) + q * (ay + s - ay) = (p * r + q * s) by grind]; omega
          · rw [show p * (ax + t - ax) + q * (ay + z - ay) = (p * t + q * z) by grind]; omega
          · rw [show p * (ax + r - (ax + p)) + q * (ay + s - (ay + q)) = (p * (r - p) + q * (s - q)) by grind]; omega
          · rw [show p * (ax + t - (ax + p)) + q * (ay + z - (ay + q)) = (p * (t - p) + q * (z - q)) by grind]; omega
    · exact key c1 (by omega) n1
  · by_cases c2 : p * z - q * t = 0
    · exact (key c2 (by omega) n2).swap2
    · refine ⟨-q, p, ?_, ?_, ?_, ?_⟩
      · rw [show -q * (ax + r - ax) + p * (ay + s - ay) = p * s - q * r by grind]; omega
      · rw [show -q * (ax + t - ax) + p * (ay + z - ay) = p * z - q * t by grind]; omega
      · rw [show -q * (ax + r - (ax + p)) + p * (ay + s - (ay + q)) = p * s - q * r by grind]; omega
      · rw [show -q * (ax + t - (ax + p)) + p * (ay + z - (ay + q)) = p * z - q * t by grind]; omega
theorem sep1 {ax ay bx b_y cx cy dx dy : Int} (h : ¬ (bx = ax ∧ b_y = ay)) (s1 : 0 ≤ crs ax ay bx b_y cx cy) (s2 : 0 ≤ crs ax ay bx b_y dx dy)
    (n1 : ¬ onP ax ay bx b_y cx cy) (n2 : ¬ onP ax ay bx b_y dx dy) (n3 : ¬ onP cx cy dx dy ax ay) : Sep ax ay bx b_y cx cy dx dy := by
  have e : ∀ u v : Int, v = u + (v - u) := fun u v => by omega
  have := sep0 (ax := ax) (ay := ay) (p := bx - ax) (q := b_y - ay) (r := cx - ax) (s := cy - ay) (t := dx - ax) (z := dy - ay) (by omega) s1 s2
    (by rw [← e, ← e, ← e, ← e]; exact n1) (by rw [← e, ← e, ← e, ← e]; exact n2) (by rw [← e, ← e, ← e, ← e]; exact n3)
  rw [← e, ← e, ← e, ← e, ← e, ← e] at this
  exact this
theorem sep2 {ax ay bx b_y cx cy dx dy : Int} (h : ¬ (bx = ax ∧ b_y = ay)) (so : ¬ opp (crs ax ay bx b_y cx cy) (crs ax ay bx b_y dx dy))
    (n1 : ¬ onP ax ay bx b_y cx cy) (n2 : ¬ onP ax ay bx b_y dx dy) (n3 : ¬ onP cx cy dx dy ax ay) (n4 : ¬ onP cx cy dx dy bx b_y) : Sep ax ay bx b_y cx cy dx dy := by
  by_cases c : 0 ≤ crs ax ay bx b_y cx cy ∧ 0 ≤ crs ax ay bx b_y dx dy
  · exact sep1 h c.1 c.2 n1 n2 n3
  · unfold opp at so
    refine Sep.swap1 (sep1 (by omega) ?_ ?_ (by rw [onP_sym]; exact n1) (by rw [onP_sym]; exact n2) n4)
    · rw [crs_swap]; omega
    · rw [crs_swap]; omega
theorem sep_meet {ax ay bx b_y cx cy dx dy : Int} (h : ¬ (bx = ax ∧ b_y = ay)) (h2 : ¬ (dx = cx ∧ dy = cy)) (hm : ¬ meetI ax ay bx b_y cx cy dx dy) : Sep ax ay bx b_y cx cy dx dy := by
  unfold meetI at hm
  have n1 : ¬ onP ax ay bx b_y cx cy := fun c => hm (.inl c)
  have n2 : ¬ onP ax ay bx b_y dx dy := fun c => hm (.inr (.inl c))
  have n3 : ¬ onP cx cy dx dy ax ay := fun c => hm (.inr (.inr (.inl c)))
  have n4 : ¬ onP cx cy dx dy bx b_y := fun c => hm (.inr (.inr (.inr (.inl c))))
  by_cases c : opp (crs ax ay bx b_y cx cy) (crs ax ay bx b_y dx dy)
  · have c2 : ¬ opp (crs cx cy dx dy ax ay) (crs cx cy dx dy bx b_y) := fun d => hm (.inr (.inr (.inr (.inr ⟨c, d⟩))))
    exact (sep2 h2 c2 n3 n4 n1 n2).swap
  · exact sep2 h c n1 n2 n3 n4
theorem fwd_of {ax ay bx b_y cx cy : Int} (h1 : ¬ (bx = ax ∧ b_y = ay)) (h2 : ¬ (cx = bx ∧ cy = b_y)) (n1 : ¬ onP ax ay bx b_y cx cy) (n2 : ¬ onP bx b_y cx cy ax ay) :
    Fwd (bx - ax) (b_y - ay) (cx - bx) (cy - b_y) := by
  have e : crs ax ay bx b_y cx cy = (bx - ax) * (cy - b_y) - (b_y - ay) * (cx - bx) := by unfold crs; grind
  obtain ⟨p, hp⟩ : ∃ p, p = bx - ax := ⟨_, rfl⟩
  obtain ⟨q, hq⟩ : ∃ q, q = b_y - ay := ⟨_, rfl⟩
  obtain ⟨r, hr⟩ : ∃ r, r = cx - bx := ⟨_, rfl⟩
  obtain ⟨s, hs⟩ : ∃ s, s = cy - b_y := ⟨_, rfl⟩
  rw [← hp, ← hq, ← hr, ← hs] at e ⊢
  rcases Int.lt_trichotomy (p * s - q * r) 0 with k | k | k
  · refine ⟨-s - -q, r - p, ?_, ?_⟩
    · rw [show (-s - -q) * p + (r - p) * q = -(p * s - q * r) by grind]; omega
    · rw [show (-s - -q) * r + (r - p) * s = -(p * s - q * r) by grind]; omega
  · have hD := norm_pos (p := p) (q := q) (by omega)
    refine ⟨p, q, by omega, ?_⟩
    have a := line_off (ax := ax) (ay := ay) (p := p) (q := q) (r := p + r) (s := q + s) (by omega) (by grind)
      (by rw [show ax + p = bx by omega, show ay + q = b_y by omega, show ax + (p + r) = cx by omega, show ay + (q + s) = cy by omega]; exact n1)
    have b := line_off (ax := bx) (ay := b_y) (p := r) (q := s) (r := -p) (s := -q) (by omega) (by grind)
      (by rw [show bx + r = cx by omega, show b_y + s = cy by omega, show bx + -p = ax by omega, show b_y + -q = ay by omega]; exact n2)
    rw [show p * (p + r) + q * (q + s) = (p * p + q * q) + (p * r + q * s) by grind] at a
    rw [show r * -p + s * -q = -(p * r + q * s) by grind] at b
    have hE := norm_pos (p := r) (q := s) (by omega)
    have e2 : (p * r + q * s) * (p * r + q * s) = (p * p + q * q) * (r * r + s * s) := by
      have : (p * r + q * s) * (p * r + q * s) = (p * p + q * q) * (r * r + s * s) - (p * s - q * r) * (p * s - q * r) := by grind
      rw [k] at this; omega
    generalize p * r + q * s = N at a b e2 ⊢
    generalize p * p + q * q = D at a b e2 hD
    generalize r * r + s * s = F at a b e2 hE
    by_cases c : 0 < N
    · exact c
    · have m := Int.mul_pos (show 0 < -N - D by omega) (show 0 < -N - F by omega)
      have m1 := Int.mul_pos hD (show 0 < -N - F by omega)
      have m2 := Int.mul_pos hE (show 0 < -N - D by omega)
      grind
  · refine ⟨s - q, -r - -p, ?_, ?_⟩
    · rw [show (s - q) * p + (-r - -p) * q = (p * s - q * r) by grind]; omega
    · rw [show (s - q) * r + (-r - -p) * s = (p * s - q * r) by grind]; omega
theorem SimpI.ne {n : Nat} {X Y : Nat → Int} (h : SimpI n X Y) (i : Nat) : ¬ (X (i + 1) = X i ∧ Y (i + 1) = Y i) := fun ⟨a, b⟩ => by
  have n3 := h.n3
  have m1 := Nat.mod_lt i (show 0 < n by omega)
  have m2 := Nat.mod_lt (i + 1) (show 0 < n by omega)
  have e := h.dist _ _ m1 m2 (by rw [modp h.px, modp h.px]; exact a.symm) (by rw [modp h.py, modp h.py]; exact b.symm)
  rw [Nat.add_mod] at e
  by_cases c : i % n + 1 < n
  · rw [Nat.mod_eq_of_lt (show 1 < n by omega), Nat.mod_eq_of_lt c] at e; omega
  · rw [Nat.mod_eq_of_lt (show 1 < n by omega), show i % n + 1 = n by omega, Nat.mod_self] at e; omega
theorem SimpI.simple {n : Nat} {X Y : Nat → Int} (h : SimpI n X Y) : Simple n X Y :=
  ⟨h.n3, h.px, h.py, fun i j h1 h2 => sep_meet (SimpI.ne h i) (SimpI.ne h j) (h.meet i j h1 h2), fun i => fwd_of (SimpI.ne h i) (SimpI.ne h (i + 1)) (h.fold i).1 (h.fold i).2⟩
end Go.Proofs.Ytgdhgncdpmalcaa.Geo
namespace Go.Proofs.Ytgdhgncdpmalcaa.Geo
open Go.Proofs.Ytgdhgncdpmalcaa.Pure
set_option linter.unusedVariables false
/-! scaled -/
theorem scl (K g h a b c d : Int) : g * (K * a - K * b) + h * (K * c - K * d) = K * (g * (a - b) + h * (c - d)) := by grind
theorem Simple.scale {n : Nat} {X Y : Nat → Int} (h : Simple n X Y) {K : Int} (hK : 0 < K) : Simple n (fun i => K * X i) (fun i => K * Y i) := by
  refine ⟨h.n3, fun i => by rw [h.px], fun i => by rw [h.py], fun i j a b => ?_, fun i => ?_⟩
  · obtain ⟨g, k, h1, h2, h3, h4⟩ := h.sep i j a b
    exact ⟨g, k, by rw [scl]; exact Int.mul_pos hK h1, by rw [scl]; exact Int.mul_pos hK h2, by rw [scl]; exact Int.mul_pos hK h3, by rw [scl]; exact Int.mul_pos hK h4⟩
  · obtain ⟨g, k, h1, h2⟩ := h.fwd i
    exact ⟨g, k, by rw [scl]; exact Int.mul_pos hK h1, by rw [scl]; exact Int.mul_pos hK h2⟩
theorem cr_scale {K a b c d a' b' c' d' : Int} (hK : 0 < K) (ha : a' = K * a) (hb : b' = K * b) (hc : c' = K * c) (hd : d' = K * d) : cr a' b' c' d' = cr a b c d := by
  rw [ha, hb, hc, hd, cr_scale_l hK, cr_scale_r hK]
theorem wn_scale {n : Nat} {X Y : Nat → Int} {K : Int} (hK : 0 < K) (x y : Int) : wn n (fun i => K * X i) (fun i => K * Y i) (K * x) (K * y) = wn n X Y x y :=
  sm_congr (fun j _ _ => cr_scale hK (by grind) (by grind) (by grind) (by grind))
theorem wl_scale {n : Nat} {X Y : Nat → Int} {K : Int} (hK : 0 < K) (i : Nat) : wl n (fun i => K * X i) (fun i => K * Y i) i = wl n X Y i := by
  have o : open_ n (fun i => K * X i) (fun i => K * Y i) (i + 1) = open_ n X Y (i + 1) :=
    sm_congr (fun j _ _ => cr_scale hK (by grind) (by grind) (by grind) (by grind))
  have l : L (K * X (i + 2) - K * X (i + 1)) (K * Y (i + 2) - K * Y (i + 1)) = L (X (i + 2) - X (i + 1)) (Y (i + 2) - Y (i + 1)) := by rw [← Int.mul_sub, ← Int.mul_sub, L_scale hK]
  unfold wl
  rw [o, l]
  rw [cr_scale (K := K) (a := -(X (i + 1) - X i)) (b := -(Y (i + 1) - Y i)) (c := -(X (i + 2) - X (i + 1))) (d := -(Y (i + 2) - Y (i + 1))) hK (by grind) (by grind) (by grind) (by grind)]
/-! a point that moves without meeting a side -/
theorem wn_move {n : Nat} {X Y : Nat → Int} (px : ∀ i, X (i + n) = X i) (py : ∀ i, Y (i + n) = Y i) {x y x' y' : Int} (hs : ∀ j, j < n → Sep x y x' y' (X j) (Y j) (X (j + 1)) (Y (j + 1))) : wn n X Y x y = wn n X Y x' y' := by
  have c := sm_cells (lo := 0) (k := n) (f := side X Y x y) (g := side X Y x' y') (h := fun j => cr (X j - x) (Y j - y) (X j - x') (Y j - y')) (fun j _ b => cell (hs j (by omega)))
  have p0 := px 0; have p1 := py 0
  rw [Nat.zero_add] at p0 p1
  simp only [Nat.zero_add, p0, p1] at c
  unfold wn; omega
/-- A point that lies on no side, and not on its line or else before or behind it: one functional is positive on what leads from it to both ends. -/
theorem off_fun {ax ay bx b_y x y : Int} (h : ¬ (bx = ax ∧ b_y = ay)) (ho : ¬ onP ax ay bx b_y x y) : ∃ g k : Int, 0 < g * (ax - x) + k * (ay - y) ∧ 0 < g * (bx - x) + k * (b_y - y) := by
  rcases Int.lt_trichotomy (crs ax ay bx b_y x y) 0 with c | c | c
  · refine ⟨-(b_y - ay), bx - ax, ?_, ?_⟩ <;> (unfold crs at c; grind)
  · have l := line_off (ax := ax) (ay := ay) (p := bx - ax) (q := b_y - ay) (r := x - ax) (s := y - ay) (by omega) c
      (by rw [show ax + (bx - ax) = bx by omega, show ay + (b_y - ay) = b_y by omega, show ax + (x - ax) = x by omega, show ay + (y - ay) = y by omega]; exact ho)
    have hD := norm_pos (p := bx - ax) (q := b_y - ay) (by omega)
    rcases l with l | l
    · refine ⟨bx - ax, b_y - ay, ?_, ?_⟩ <;> grind
    · refine ⟨-(bx - ax), -(b_y - ay), ?_, ?_⟩ <;> grind
  · refine ⟨b_y - ay, -(bx - ax), ?_, ?_⟩ <;> (unfold crs at c; grind)
/-- Finitely many functionals have a common bound. -/
theorem bound_all {P : Nat → Int → Int → Prop} (n : Nat) (h : ∀ j, j < n → ∃ g k, P j g k) : ∃ K : Int, 0 < K ∧ ∀ j, j < n → ∃ g k, P j g k ∧ k < K ∧ -K < k := by
  induction n with
  | zero => exact ⟨1, by omega, fun j hj => by omega⟩
  | succ n ih =>
    obtain ⟨K, h0, hK⟩ := ih (fun j hj => h j (by omega))
    obtain ⟨g, k, hp⟩ := h n (by omega)
    refine ⟨K + k.natAbs + 1, by omega, fun j hj => ?_⟩
    by_cases e : j = n
    · subst e; exact ⟨g, k, hp, by omega, by omega⟩
    · obtain ⟨g', k', hp', a, b⟩ := hK j (by omega)
      exact ⟨g', k', hp', by omega, by omega⟩
/-- The point lies on no side: one functional for each side. -/
def Offs (n : Nat) (X Y : Nat → Int) (x y : Int) : Prop := ∀ j, j < n → ∃ g k : Int, 0 < g * (X j - x) + k * (Y j - y) ∧ 0 < g * (X (j + 1) - x) + k * (Y (j + 1) - y)
theorem offs_of {n : Nat} {X Y : Nat → Int} {x y : Int} (ne : ∀ j, ¬ (X (j + 1) = X j ∧ Y (j + 1) = Y j)) (ho : ∀ j, j < n → ¬ onP (X j) (Y j) (X (j + 1)) (Y (j + 1)) x y) : Offs n X Y x y :=
  fun j hj => off_fun (ne j) (ho j hj)
/-- Scaled, the point may be put on a row without corners. -/
theorem row_free {n : Nat} {X Y : Nat → Int} (px : ∀ i, X (i + n) = X i) (py : ∀ i, Y (i + n) = Y i) {x y : Int} (ho : Offs n X Y x y) :
    ∃ K : Int, 1 < K ∧ wn n (fun i => K * X i) (fun i => K * Y i) (K * x) (K * y + 1) = wn n X Y x y ∧ Offs n (fun i => K * X i) (fun i => K * Y i) (K * x) (K * y + 1) := by
  obtain ⟨K, h0, hK⟩ := bound_all (P := fun j g k => 0 < g * (X j - x) + k * (Y j - y) ∧ 0 < g * (X (j + 1) - x) + k * (Y (j + 1) - y)) n ho
  have main : ∀ j, j < n → Sep ((K + 1) * x) ((K + 1) * y) ((K + 1) * x) ((K + 1) * y + 1) ((K + 1) * X j) ((K + 1) * Y j) ((K + 1) * X (j + 1)) ((K + 1) * Y (j + 1)) := fun j hj => by
    obtain ⟨g, k, ⟨h1, h2⟩, a, b⟩ := hK j hj
    have m : ∀ {t : Int}, 0 < t → 0 < (K + 1) * t ∧ 0 < (K + 1) * t - k := fun {t} ht => by
      have : (K + 1) * 1 ≤ (K + 1) * t := Int.mul_le_mul_of_nonneg_left ht (by omega)
      omega
    refine ⟨g, k, by rw [scl]; exact (m h1).1, by rw [scl]; exact (m h2).1, ?_, ?_⟩
    · rw [show g * ((K + 1) * X j - (K + 1) * x) + k * ((K + 1) * Y j - ((K + 1) * y + 1)) = (K + 1) * (g * (X j - x) + k * (Y j - y)) - k by grind]; exact (m h1).2
    · rw [show g * ((K + 1) * X (j + 1) - (K + 1) * x) + k * ((K + 1) * Y (j + 1) - ((K + 1) * y + 1)) = (K + 1) * (g * (X (j + 1) - x) + k * (Y (j + 1) - y)) - k by grind]; exact (m h2).2
  refine ⟨K + 1, by omega, ?_, fun j hj => ?_⟩
  · rw [← wn_scale (X := X) (Y := Y) (show 0 < K + 1 by omega) x y]
    exact (wn_move (fun i => by rw [px]) (fun i => by rw [py]) main).symm
  · obtain ⟨g, k, _, _, h3, h4⟩ := main j hj
    exact ⟨g, k, h3, h4⟩
theorem argmin (m : Nat) (P : Nat → Prop) (N D : Nat → Int) (hD : ∀ j, P j → 0 < D j) : (∀ j, j < m → ¬ P j) ∨ ∃ j, j < m ∧ P j ∧ ∀ k, k < m → P k → N j * D k ≤ N k * D j := by
  induction m with
  | zero => exact .inl (fun j hj => by omega)
  | succ m ih =>
    by_cases c : P m
    · rcases ih with a | ⟨j, hj, pj, hm⟩
      · refine .inr ⟨m, by omega, c, fun k hk pk => ?_⟩
        by_cases e : k = m
        · subst e; omega
        · exact (a k (by omega) pk).elim
      · by_cases d : N j * D m ≤ N m * D j
        · refine .inr ⟨j, by omega, pj, fun k hk pk => ?_⟩
          by_cases e : k = m
          · subst e; exact d
          · exact hm k (by omega) pk
        · refine .inr ⟨m, by omega, c, fun k hk pk => ?_⟩
          by_cases e : k = m
          · subst e; omega
          · have h1 := hm k (by omega) pk
            have d1 := hD j pj; have d2 := hD m c; have d3 := hD k pk
            have a1 := Int.mul_le_mul_of_nonneg_right h1 (Int.le_of_lt d2)
            have a2 := Int.mul_le_mul_of_nonneg_right (show N m * D j ≤ N j * D m by omega) (Int.le_of_lt d3)
            refine Int.le_of_mul_le_mul_right (a := D j) ?_ d1
            grind
    · rcases ih with a | ⟨j, hj, pj, hm⟩
      · refine .inl (fun j hj => ?_)
        by_cases e : j = m
        · subst e; exact c
        · exact a j (by omega)
      · refine .inr ⟨j, by omega, pj, fun k hk pk => ?_⟩
        by_cases e : k = m
        · subst e; exact (c pk).elim
        · exact hm k (by omega) pk
/-! the row of a point: u, v lead to the ends of a side -/
/-- The side crosses the row. -/
def crosses (b d : Int) : Prop := (b < 0 ∧ 0 < d) ∨ (d < 0 ∧ 0 < b)
/-- The crossing lies N / D to the east. -/
def rowN (a b c d : Int) : Int := d.natAbs * a + b.natAbs * c
def rowD (b d : Int) : Int := b.natAbs + d.natAbs
/-- The functional of the side: what both ends have. -/
theorem rowG {a b c d : Int} (h : crosses b d) : ∃ k : Int, rowD b d * a + k * b = rowN a b c d ∧ rowD b d * c + k * d = rowN a b c d := by
  unfold rowD rowN
  rcases h with ⟨h1, h2⟩ | ⟨h1, h2⟩
  · refine ⟨a - c, ?_, ?_⟩
    · rw [show (b.natAbs : Int) = -b by omega, show (d.natAbs : Int) = d by omega]; grind
    · rw [show (b.natAbs : Int) = -b by omega, show (d.natAbs : Int) = d by omega]; grind
  · refine ⟨c - a, ?_, ?_⟩
    · rw [show (b.natAbs : Int) = b by omega, show (d.natAbs : Int) = -d by omega]; grind
    · rw [show (b.natAbs : Int) = b by omega, show (d.natAbs : Int) = -d by omega]; grind
/-- A side that does not cross the row east of the point is not counted. -/
theorem cr_row {a b c d : Int} (hb : b ≠ 0) (hd : d ≠ 0) (h : ¬ (crosses b d ∧ 0 < rowN a b c d)) : cr a b c d = 0 := by
  unfold cr cro
  by_cases h1 : b < 0
  · rw [if_pos (by unfold low; omega)]
    by_cases h2 : d < 0
    · rw [if_pos (by unfold low; omega)]
    · rw [if_neg (by unfold low; omega), if_neg]
      intro k; apply h
      refine ⟨.inl ⟨h1, by omega⟩, ?_⟩
      unfold rowN
      rw [show (b.natAbs : Int) = -b by omega, show (d.natAbs : Int) = d by omega]; grind
  · rw [if_neg (by unfold low; omega)]
    by_cases h2 : d < 0
    · rw [if_pos (by unfold low; omega), if_neg]
      intro k; apply h
      refine ⟨.inr ⟨h2, by omega⟩, ?_⟩
      unfold rowN
      rw [show (b.natAbs : Int) = b by omega, show (d.natAbs : Int) = -d by omega]; grind
    · rw [if_neg (by unfold low; omega)]
/-- Two sides apart have no crossing in common. -/
theorem sep_row {ax ay bx b_y cx cy dx dy x y : Int} (h : Sep ax ay bx b_y cx cy dx dy) (c1 : crosses (ay - y) (b_y - y)) (c2 : crosses (cy - y) (dy - y)) :
    rowN (ax - x) (ay - y) (bx - x) (b_y - y) * rowD (cy - y) (dy - y) ≠ rowN (cx - x) (cy - y) (dx - x) (dy - y) * rowD (ay - y) (b_y - y) := by
  obtain ⟨g, k, h1, h2, h3, h4⟩ := h
  intro e
  unfold rowN rowD at e
  have pos : ∀ {u v : Int}, crosses u v → 0 < (u.natAbs : Int) ∧ 0 < (v.natAbs : Int) ∧ v.natAbs * u + u.natAbs * v = 0 := by
    intro u v c
    refine ⟨by unfold crosses at c; omega, by unfold crosses at c; omega, ?_⟩
    rcases c with ⟨c, d⟩ | ⟨c, d⟩
    · rw [show (u.natAbs : Int) = -u by omega, show (v.natAbs : Int) = v by omega]; grind
    · rw [show (u.natAbs : Int) = u by omega, show (v.natAbs : Int) = -v by omega]; grind
  obtain ⟨p1, p2, p3⟩ := pos c1
  obtain ⟨q1, q2, q3⟩ := pos c2
  generalize ((ay - y).natAbs : Int) = al at *
  generalize ((b_y - y).natAbs : Int) = be at *
  generalize ((cy - y).natAbs : Int) = ga at *
  generalize ((dy - y).natAbs : Int) = de at *
  have m1 := Int.mul_pos (Int.mul_pos p2 q2) h1
  have m2 := Int.mul_pos (Int.mul_pos p2 q1) h2
  have m3 := Int.mul_pos (Int.mul_pos p1 q2) h3
  have m4 := Int.mul_pos (Int.mul_pos p1 q1) h4
  have s : be * de * (g * (cx - ax) + k * (cy - ay)) + be * ga * (g * (dx - ax) + k * (dy - ay)) + al * de * (g * (cx - bx) + k * (cy - b_y)) + al * ga * (g * (dx - bx) + k * (dy - b_y)) =
    g * ((al + be) * (de * (cx - x) + ga * (dx - x)) - (de + ga) * (be * (ax - x) + al * (bx - x))) + k * ((al + be) * (de * (cy - y) + ga * (dy - y)) - (de + ga) * (be * (ay - y) + al * (b_y - y))) := by grind
  rw [p3, q3] at s
  rw [show (al + be) * (de * (cx - x) + ga * (dx - x)) - (de + ga) * (be * (ax - x) + al * (bx - x)) = 0 by grind] at s
  simp at s
  omega
theorem nat_pos {u v : Int} (c : crosses u v) : 0 < (u.natAbs : Int) ∧ 0 < (v.natAbs : Int) ∧ v.natAbs * u + u.natAbs * v = 0 := by
  refine ⟨by unfold crosses at c; omega, by unfold crosses at c; omega, ?_⟩
  rcases c with ⟨c, d⟩ | ⟨c, d⟩
  · rw [show (u.natAbs : Int) = -u by omega, show (v.natAbs : Int) = v by omega]; grind
  · rw [show (u.natAbs : Int) = u by omega, show (v.natAbs : Int) = -v by omega]; grind
theorem fwd_row {ax ay bx b_y cx cy x y : Int} (h : Fwd (bx - ax) (b_y - ay) (cx - bx) (cy - b_y)) (c1 : crosses (ay - y) (b_y - y)) (c2 : crosses (b_y - y) (cy - y)) :
    rowN (ax - x) (ay - y) (bx - x) (b_y - y) * rowD (b_y - y) (cy - y) ≠ rowN (bx - x) (b_y - y) (cx - x) (cy - y) * rowD (ay - y) (b_y - y) := by
  obtain ⟨g, k, h1, h2⟩ := h
  intro e
  unfold rowN rowD at e
  obtain ⟨p1, p2, p3⟩ := nat_pos c1
  obtain ⟨q1, q2, q3⟩ := nat_pos c2
  generalize ((ay - y).natAbs : Int) = al at *
  generalize ((b_y - y).natAbs : Int) = be at *
  generalize ((cy - y).natAbs : Int) = ga at *
  have m1 := Int.mul_pos (Int.mul_pos (show 0 < al + be by omega) p2) h2
  have m2 := Int.mul_pos (Int.mul_pos (show 0 < be + ga by omega) p2) h1
  have s : (al + be) * be * (g * (cx - bx) + k * (cy - b_y)) + (be + ga) * be * (g * (bx - ax) + k * (b_y - ay)) =
    g * ((al + be) * (ga * (bx - x) + be * (cx - x)) - (be + ga) * (be * (ax - x) + al * (bx - x))) + k * ((al + be) * (ga * (b_y - y) + be * (cy - y)) - (be + ga) * (be * (ay - y) + al * (b_y - y))) := by grind
  rw [p3, q3, show (al + be) * (ga * (bx - x) + be * (cx - x)) - (be + ga) * (be * (ax - x) + al * (bx - x)) = 0 by grind] at s
  simp at s
  omega
section
variable (X Y : Nat → Int) (x y : Int)
def jC (j : Nat) : Prop := crosses (Y j - y) (Y (j + 1) - y)
def jN (j : Nat) : Int := rowN (X j - x) (Y j - y) (X (j + 1) - x) (Y (j + 1) - y)
def jD (j : Nat) : Int := rowD (Y j - y) (Y (j + 1) - y)
end
theorem jD_pos {Y : Nat → Int} {y : Int} {j : Nat} (h : jC Y y j) : 0 < jD Y y j := by unfold jC crosses at h; unfold jD rowD; omega
theorem jN_per {n : Nat} {X Y : Nat → Int} {x y : Int} (px : ∀ i, X (i + n) = X i) (py : ∀ i, Y (i + n) = Y i) (j : Nat) : jN X Y x y (j + n) = jN X Y x y j ∧ jD Y y (j + n) = jD Y y j ∧ (jC Y y (j + n) ↔ jC Y y j) := by
  unfold jN jD jC
  rw [show j + n + 1 = j + 1 + n by omega, px, px, py, py]
  exact ⟨rfl, rfl, Iff.rfl⟩
theorem apart {n : Nat} {X Y : Nat → Int} (h : Simple n X Y) {x y : Int} {j k : Nat} (hj : j < k) (hk : k < n) (c1 : jC Y y j) (c2 : jC Y y k) : jN X Y x y j * jD Y y k ≠ jN X Y x y k * jD Y y j := by
  have n3 := h.n3
  by_cases e : k = j + 1
  · subst e
    exact fwd_row (h.fwd j) c1 c2
  · by_cases e2 : k + 2 ≤ j + n
    · exact sep_row (h.sep j k (by omega) e2) c1 c2
    · obtain rfl : j = 0 := by omega
      obtain ⟨m, rfl⟩ : ∃ m, n = m + 1 := ⟨n - 1, by omega⟩
      obtain rfl : k = m := by omega
      have p := jN_per (x := x) (y := y) h.px h.py 0
      rw [Nat.zero_add] at p
      rw [← p.1, ← p.2.1]
      exact (fwd_row (h.fwd k) c2 (p.2.2.2 c1)).symm
theorem apart' {n : Nat} {X Y : Nat → Int} (h : Simple n X Y) {x y : Int} {j k : Nat} (hj : j < n) (hk : k < n) (hjk : j ≠ k) (c1 : jC Y y j) (c2 : jC Y y k) : jN X Y x y j * jD Y y k ≠ jN X Y x y k * jD Y y j := by
  rcases Nat.lt_or_ge j k with q | q
  · exact apart h q hk c1 c2
  · exact (apart h (by omega) hj c2 c1).symm
theorem wn_row {n : Nat} {X Y : Nat → Int} (h : Simple n X Y) {x y : Int} (hr : ∀ j, Y j ≠ y) (ho : Offs n X Y x y) : wn n X Y x y = 0 ∨ wn n X Y x y = wl n X Y 0 ∨ wn n X Y x y = wl n X Y 0 - 1 := by
  have n3 := h.n3
  rcases argmin n (fun j => jC Y y j ∧ 0 < jN X Y x y j) (jN X Y x y) (jD Y y) (fun j hj => jD_pos hj.1) with a | ⟨j, hj, ⟨cj, pj⟩, hm⟩
  · refine .inl (sm_zero (fun j _ b => ?_))
    exact cr_row (by have := hr j; omega) (by have := hr (j + 1); omega) (a j (by omega))
  · right
    have hD := jD_pos cj
    have near : ∀ k, k < n → k ≠ j → Sep (jD Y y j * x) (jD Y y j * y) (jD Y y j * x + jN X Y x y j) (jD Y y j * y) (jD Y y j * X k) (jD Y y j * Y k) (jD Y y j * X (k + 1)) (jD Y y j * Y (k + 1)) := by
      intro k hk hkj
      have y0 := hr k; have y1 := hr (k + 1)
      by_cases c : jC Y y k
      · obtain ⟨g, g1, g2⟩ := rowG (a := X k - x) (c := X (k + 1) - x) c
        have e1 : jD Y y k * (X k - x) + g * (Y k - y) = jN X Y x y k := g1
        have e2 : jD Y y k * (X (k + 1) - x) + g * (Y (k + 1) - y) = jN X Y x y k := g2
        have nz : jN X Y x y k ≠ 0 := by
          intro z
          obtain ⟨a, b, o1, o2⟩ := ho k hk
          obtain ⟨p1, p2, p3⟩ := nat_pos c
          have m1 := Int.mul_pos p2 o1
          have m2 := Int.mul_pos p1 o2
          have s : ((Y (k + 1) - y).natAbs : Int) * (a * (X k - x) + b * (Y k - y)) + ((Y k - y).natAbs : Int) * (a * (X (k + 1) - x) + b * (Y (k + 1) - y)) =
            a * jN X Y x y k + b * (((Y (k + 1) - y).natAbs : Int) * (Y k - y) + ((Y k - y).natAbs : Int) * (Y (k + 1) - y)) := by unfold jN rowN; grind
          rw [p3, z] at s
          simp at s
          omega
        rcases Int.lt_or_le 0 (jN X Y x y k) with q | q
        · have le := hm k hk ⟨c, q⟩
          have ne := apart' h hj hk (fun e => hkj e.symm) cj c (x := x)
          have m := Int.mul_pos hD q
          have cm := Int.mul_comm (jD Y y j) (jN X Y x y k)
          have cm2 := Int.mul_comm (jD Y y k) (jN X Y x y j)
          refine ⟨jD Y y k, g, ?_, ?_, ?_, ?_⟩
          · rw [scl, e1]; exact m
          · rw [scl, e2]; exact m
          · rw [show jD Y y k * (jD Y y j * X k - (jD Y y j * x + jN X Y x y j)) + g * (jD Y y j * Y k - jD Y y j * y) = jD Y y j * (jD Y y k * (X k - x) + g * (Y k - y)) - jD Y y k * jN X Y x y j by grind, e1]; omega
          · rw [show jD Y y k * (jD Y y j * X (k + 1) - (jD Y y j * x + jN X Y x y j)) + g * (jD Y y j * Y (k + 1) - jD Y y j * y) = jD Y y j * (jD Y y k * (X (k + 1) - x) + g * (Y (k + 1) - y)) - jD Y y k * jN X Y x y j by grind, e2]; omega
        · have m := Int.mul_pos hD (show 0 < -jN X Y x y k by omega)
          have m2 := Int.mul_pos (jD_pos c) pj
          refine ⟨-jD Y y k, -g, ?_, ?_, ?_, ?_⟩
          · rw [scl, show -jD Y y k * (X k - x) + -g * (Y k - y) = -(jD Y y k * (X k - x) + g * (Y k - y)) by grind, e1]; exact m
          · rw [scl, show -jD Y y k * (X (k + 1) - x) + -g * (Y (k + 1) - y) = -(jD Y y k * (X (k + 1) - x) + g * (Y (k + 1) - y)) by grind, e2]; exact m
          · rw [show -jD Y y k * (jD Y y j * X k - (jD Y y j * x + jN X Y x y j)) + -g * (jD Y y j * Y k - jD Y y j * y) = jD Y y j * -(jD Y y k * (X k - x) + g * (Y k - y)) + jD Y y k * jN X Y x y j by grind, e1]; omega
          · rw [show -jD Y y k * (jD Y y j * X (k + 1) - (jD Y y j * x + jN X Y x y j)) + -g * (jD Y y j * Y (k + 1) - jD Y y j * y) = jD Y y j * -(jD Y y k * (X (k + 1) - x) + g * (Y (k + 1) - y)) + jD Y y k * jN X Y x y j by grind, e2]; omega
      · unfold jC crosses at c
        rcases Int.lt_or_le (Y k) y with q | q
        · have m1 := Int.mul_pos hD (show 0 < y - Y k by omega)
          have m2 := Int.mul_pos hD (show 0 < y - Y (k + 1) by omega)
          exact ⟨0, -1, by grind, by grind, by grind, by grind⟩
        · have m1 := Int.mul_pos hD (show 0 < Y k - y by omega)
          have m2 := Int.mul_pos hD (show 0 < Y (k + 1) - y by omega)
          exact ⟨0, 1, by grind, by grind, by grind, by grind⟩
    obtain ⟨p1, p2, p3⟩ := nat_pos cj
    have i1 : j + (n - 1) + 1 = j + n := by omega
    have i2 : j + (n - 1) + 2 = j + 1 + n := by omega
    have w := wn_near (h.scale hD) (i := j + (n - 1)) (al := ((Y (j + 1) - y).natAbs : Int)) (be := ((Y j - y).natAbs : Int)) (cx := jD Y y j * x + jN X Y x y j) (qx := jD Y y j * x) (qy := jD Y y j * y) p2 p1
      (by
        rw [i1, i2, h.px, h.px]
        have eD : jD Y y j = ((Y j - y).natAbs : Int) + ((Y (j + 1) - y).natAbs : Int) := rfl
        have eN : jN X Y x y j = ((Y (j + 1) - y).natAbs : Int) * (X j - x) + ((Y j - y).natAbs : Int) * (X (j + 1) - x) := rfl
        rw [eN]
        grind)
      (by
        rw [i1, i2, h.py, h.py]
        have eD : jD Y y j = ((Y j - y).natAbs : Int) + ((Y (j + 1) - y).natAbs : Int) := rfl
        grind)
      (by omega)
      (by
        intro e
        exact hr _ (Int.eq_of_mul_eq_mul_left (show jD Y y j ≠ 0 by omega) e))
      (by
        intro e
        exact hr _ (Int.eq_of_mul_eq_mul_left (show jD Y y j ≠ 0 by omega) e))
      (by
        intro t ht ht2
        by_cases q : t < 2 * n
        · have := near (t - n) (by omega) (by omega)
          rw [← h.px (t - n), ← h.py (t - n), ← h.px (t - n + 1), ← h.py (t - n + 1), show t - n + 1 + n = t + 1 by omega, show t - n + n = t by omega] at this
          exact this
        · have := near (t - n - n) (by omega) (by omega)
          rw [← h.px (t - n - n), ← h.py (t - n - n), ← h.px (t - n - n + 1), ← h.py (t - n - n + 1), show t - n - n + 1 + n = t - n + 1 by omega, show t - n - n + n = t - n by omega,
            ← h.px (t - n), ← h.py (t - n), ← h.px (t - n + 1), ← h.py (t - n + 1), show t - n + 1 + n = t + 1 by omega, show t - n + n = t by omega] at this
          exact this)
    rw [wn_scale hD, wl_scale hD, wl_all h] at w
    rw [i1, i2, h.py, h.py] at w
    rcases cj with ⟨a, b⟩ | ⟨a, b⟩
    · exact .inl (w.1 (Int.mul_lt_mul_of_pos_left (by omega) hD))
    · exact .inr (w.2 (Int.mul_lt_mul_of_pos_left (by omega) hD))
/-- Off all sides, the number is that of the left of the sides, or one less, or 0. -/
theorem wn_off {n : Nat} {X Y : Nat → Int} (h : Simple n X Y) {x y : Int} (ho : Offs n X Y x y) : wn n X Y x y = 0 ∨ wn n X Y x y = wl n X Y 0 ∨ wn n X Y x y = wl n X Y 0 - 1 := by
  obtain ⟨K, h1, e, o⟩ := row_free h.px h.py ho
  have hK : 0 < K := by omega
  have := wn_row (h.scale hK) (fun j => by
    intro e
    have : K * (Y j - y) = 1 := by rw [Int.mul_sub]; omega
    have d : K ∣ 1 := ⟨_, this.symm⟩
    have := Int.le_of_dvd (by omega) d
    omega) o
  rw [e, wl_scale hK] at this
  exact this
end Go.Proofs.Ytgdhgncdpmalcaa.Geo
namespace Go.Proofs.Ytgdhgncdpmalcaa.Geo
open Go.Proofs.Ytgdhgncdpmalcaa.Pure
set_option linter.unusedVariables false
theorem sgn_pos {x : Int} (h : 0 < x) : sgn x = 1 := by unfold sgn; rw [if_neg (by omega), if_pos (by omega)]
theorem sgn_neg {x : Int} (h : x < 0) : sgn x = -1 := by unfold sgn; rw [if_pos h]
theorem sgn_zero : sgn 0 = 0 := rfl
theorem sgn_opp' (x : Int) : sgn (-x) = -sgn x := by unfold sgn; repeat' split
                                                     all_goals omega
/-- Four times the half crossing of a side, seen from a point: u and v lead to its ends. -/
def g4 (a b c d : Int) : Int := ((sgn d - sgn b).natAbs : Int) * sgn (cro a b c d)
/-- Which of four rays a direction has passed. -/
def Phi (a b : Int) : Int := if 0 < b then 0 else if b < 0 then 2 else if a < 0 then 1 else 3
theorem g4_cr {a b c d : Int} (h : Fwd a b c d) : g4 a b c d = 4 * cr a b c d + Phi c d - Phi a b := by
  obtain ⟨x, y, h1, h2⟩ := h
  have k1 : d * (x * a + y * b) - b * (x * c + y * d) = x * cro a b c d := by unfold cro; grind
  have z1 : ¬ (a = 0 ∧ b = 0) := fun ⟨p, q⟩ => by subst p; subst q; simp at h1
  have z2 : ¬ (c = 0 ∧ d = 0) := fun ⟨p, q⟩ => by subst p; subst q; simp at h2
  rcases Int.lt_trichotomy b 0 with hb | hb | hb
  · rcases Int.lt_trichotomy d 0 with hd | hd | hd
    · unfold g4 cr Phi
      rw [sgn_neg hb, sgn_neg hd, if_pos (show low a b by unfold low; omega), if_pos (show low c d by unfold low; omega), if_neg (by omega), if_pos hd, if_neg (by omega), if_pos hb]; simp
    · subst hd
      rcases Int.lt_trichotomy c 0 with hc | hc | hc
      · have m := Int.mul_pos (show 0 < -b by omega) (show 0 < -c by omega)
        have e : cro a b c 0 < 0 := by unfold cro; rw [Int.neg_mul_neg] at m; omega
        unfold g4 cr Phi
        rw [sgn_neg hb, sgn_neg e, sgn_zero, if_pos (show low a b by unfold low; omega), if_neg (show ¬ low c 0 by unfold low; omega), if_neg (by omega)]
        simp; omega
      · omega
      · have m := Int.mul_pos (show 0 < -b by omega) hc
        have e : 0 < cro a b c 0 := by unfold cro; rw [Int.neg_mul] at m; omega
        unfold g4 cr Phi
        rw [sgn_neg hb, sgn_pos e, sgn_zero, if_pos (show low a b by unfold low; omega), if_pos (show low c 0 by unfold low; omega)]
        simp; omega
    · have ne : cro a b c d ≠ 0 := fun z => by
        rw [z] at k1
        have m1 := Int.mul_pos hd h1
        have m2 := Int.mul_pos (show 0 < -b by omega) h2
        rw [Int.neg_mul] at m2; omega
      unfold g4 cr Phi
      rw [sgn_neg hb, sgn_pos hd, if_pos (show low a b by unfold low; omega), if_neg (show ¬ low c d by unfold low; omega)]
      rcases Int.lt_or_le 0 (cro a b c d) with e | e
      · rw [sgn_pos e]; simp; omega
      · rw [sgn_neg (by omega)]; simp; omega
  · subst hb
    rcases Int.lt_trichotomy d 0 with hd | hd | hd
    · rcases Int.lt_trichotomy a 0 with ha | ha | ha
      · have m := Int.mul_pos (show 0 < -a by omega) (show 0 < -d by omega)
        have e : 0 < cro a 0 c d := by unfold cro; rw [Int.neg_mul_neg] at m; omega
        unfold g4 cr Phi
        rw [sgn_neg hd, sgn_pos e, sgn_zero, if_neg (show ¬ low a 0 by unfold low; omega), if_pos (show low c d by unfold low; omega), if_neg (by omega)]
        simp; omega
      · omega
      · have m := Int.mul_pos ha (show 0 < -d by omega)
        have e : cro a 0 c d < 0 := by unfold cro; rw [Int.mul_neg] at m; omega
        unfold g4 cr Phi
        rw [sgn_neg hd, sgn_neg e, sgn_zero, if_pos (show low a 0 by unfold low; omega), if_pos (show low c d by unfold low; omega)]
        simp; omega
    · subst hd
      have e : cro a 0 c 0 = 0 := by unfold cro; simp
      simp at h1 h2
      have s : (0 < a ∧ 0 < c) ∨ (a < 0 ∧ c < 0) := by
        rcases Int.lt_trichotomy x 0 with hx | hx | hx
        · right
          constructor
          · apply Classical.byContradiction; intro k
            have := Int.mul_nonneg (show 0 ≤ -x by omega) (show 0 ≤ a by omega); rw [Int.neg_mul] at this; omega
          · apply Classical.byContradiction; intro k
            have := Int.mul_nonneg (show 0 ≤ -x by omega) (show 0 ≤ c by omega); rw [Int.neg_mul] at this; omega
        · subst hx; simp at h1
        · left
          exact ⟨pos_of_mul' h1 (Int.le_of_lt hx), pos_of_mul' h2 (Int.le_of_lt hx)⟩
      unfold g4 cr Phi
      rw [e, sgn_zero]
      rcases s with ⟨p, q⟩ | ⟨p, q⟩
      · rw [if_pos (show low a 0 by unfold low; omega), if_pos (show low c 0 by unfold low; omega)]
        simp; omega
      · rw [if_neg (show ¬ low a 0 by unfold low; omega), if_neg (show ¬ low c 0 by unfold low; omega)]
        simp; omega
    · rcases Int.lt_trichotomy a 0 with ha | ha | ha
      · have m := Int.mul_pos (show 0 < -a by omega) hd
        have e : cro a 0 c d < 0 := by unfold cro; rw [Int.neg_mul] at m; omega
        unfold g4 cr Phi
        rw [sgn_pos hd, sgn_neg e, sgn_zero, if_neg (show ¬ low a 0 by unfold low; omega), if_neg (show ¬ low c d by unfold low; omega)]
        simp; omega
      · omega
      · have m := Int.mul_pos ha hd
        have e : 0 < cro a 0 c d := by unfold cro; omega
        unfold g4 cr Phi
        rw [sgn_pos hd, sgn_pos e, sgn_zero, if_pos (show low a 0 by unfold low; omega), if_neg (show ¬ low c d by unfold low; omega), if_pos e]
        simp; omega
  · rcases Int.lt_trichotomy d 0 with hd | hd | hd
    · have ne : cro a b c d ≠ 0 := fun z => by
        rw [z] at k1
        have m1 := Int.mul_pos (show 0 < -d by omega) h1
        have m2 := Int.mul_pos hb h2
        rw [Int.neg_mul] at m1; omega
      unfold g4 cr Phi
      rw [sgn_pos hb, sgn_neg hd, if_neg (show ¬ low a b by unfold low; omega), if_pos (show low c d by unfold low; omega)]
      rcases Int.lt_or_le 0 (cro a b c d) with e | e
      · rw [sgn_pos e]; simp; omega
      · rw [sgn_neg (by omega)]; simp; omega
    · subst hd
      rcases Int.lt_trichotomy c 0 with hc | hc | hc
      · have m := Int.mul_pos hb (show 0 < -c by omega)
        have e : 0 < cro a b c 0 := by unfold cro; rw [Int.mul_neg] at m; omega
        unfold g4 cr Phi
        rw [sgn_pos hb, sgn_pos e, sgn_zero, if_neg (show ¬ low a b by unfold low; omega), if_neg (show ¬ low c 0 by unfold low; omega)]
        simp; omega
      · omega
      · have m := Int.mul_pos hb hc
        have e : cro a b c 0 < 0 := by unfold cro; omega
        unfold g4 cr Phi
        rw [sgn_pos hb, sgn_neg e, sgn_zero, if_neg (show ¬ low a b by unfold low; omega), if_pos (show low c 0 by unfold low; omega), if_pos e]
        simp; omega
    · unfold g4 cr Phi
      rw [sgn_pos hb, sgn_pos hd, if_neg (show ¬ low a b by unfold low; omega), if_neg (show ¬ low c d by unfold low; omega), if_pos hd, if_pos hb]; simp
/-! sums of a side -/
theorem sm_mul (lo k : Nat) (c : Int) (f : Nat → Int) : sm lo k (fun j => c * f j) = c * sm lo k f := by
  induction k with
  | zero => simp [sm]
  | succ k ih => simp only [sm]; rw [ih, Int.mul_add]
theorem sm_swp (a b lo lo' : Nat) (F : Nat → Nat → Int) : sm lo a (fun i => sm lo' b (F i)) = sm lo' b (fun k => sm lo a (fun i => F i k)) := by
  induction a with
  | zero => exact (sm_zero (fun _ _ _ => rfl)).symm
  | succ a ih =>
    simp only [sm]
    rw [ih, sm_add]
section
variable (ax ay bx b_y : Int)
def fc (x y : Int) : Int := sgn (cro (ax - x) (ay - y) (bx - x) (b_y - y))
def row (N : Nat) (y t : Int) : Int := sm 0 N (fun j => fc ax ay bx b_y (t + j) y)
end
theorem row_slide1 {ax ay bx b_y y t : Int} {N : Nat} (hu : ay < b_y) (h1 : ay ≤ y) (h2 : y ≤ b_y) (t1 : t < ax) (t2 : t < bx) (t3 : ax < t + N) (t4 : bx < t + N) :
    row ax ay bx b_y N y t = row ax ay bx b_y N y (t + 1) + 2 := by
  have e := sm_tele 0 N (fun j => fc ax ay bx b_y (t + j) y)
  rw [sm_sub] at e
  have e2 : sm 0 N (fun j => fc ax ay bx b_y (t + ((j + 1 : Nat) : Int)) y) = row ax ay bx b_y N y (t + 1) := sm_congr (fun j _ _ => by rw [show t + ((j + 1 : Nat) : Int) = t + 1 + j by omega])
  have pos : ∀ x, x < ax → x < bx → fc ax ay bx b_y x y = 1 := fun x q1 q2 => by
    refine sgn_pos ?_
    unfold cro
    rcases Int.lt_or_le y b_y with g | g
    · have m1 := Int.mul_pos (show 0 < ax - x by omega) (show 0 < b_y - y by omega)
      have m2 := Int.mul_nonneg (show 0 ≤ -(ay - y) by omega) (show 0 ≤ bx - x by omega)
      rw [Int.neg_mul] at m2; omega
    · have m1 := Int.mul_nonneg (show 0 ≤ ax - x by omega) (show 0 ≤ b_y - y by omega)
      have m2 := Int.mul_pos (show 0 < -(ay - y) by omega) (show 0 < bx - x by omega)
      rw [Int.neg_mul] at m2; omega
  have neg : ∀ x, ax < x → bx < x → fc ax ay bx b_y x y = -1 := fun x q1 q2 => by
    refine sgn_neg ?_
    unfold cro
    rcases Int.lt_or_le y b_y with g | g
    · have m1 := Int.mul_pos (show 0 < -(ax - x) by omega) (show 0 < b_y - y by omega)
      have m2 := Int.mul_nonneg (show 0 ≤ -(ay - y) by omega) (show 0 ≤ -(bx - x) by omega)
      rw [Int.neg_mul_neg] at m2; rw [Int.neg_mul] at m1; omega
    · have m1 := Int.mul_nonneg (show 0 ≤ -(ax - x) by omega) (show 0 ≤ b_y - y by omega)
      have m2 := Int.mul_pos (show 0 < -(ay - y) by omega) (show 0 < -(bx - x) by omega)
      rw [Int.neg_mul_neg] at m2; rw [Int.neg_mul] at m1; omega
  rw [e2, pos (t + ((0 : Nat) : Int)) (by omega) (by omega), neg (t + ((0 + N : Nat) : Int)) (by omega) (by omega)] at e
  have e3 : sm 0 N (fun j => fc ax ay bx b_y (t + (j : Int)) y) = row ax ay bx b_y N y t := rfl
  rw [e3] at e
  omega
theorem row_slide {ax ay bx b_y y t : Int} {N : Nat} (hu : ay < b_y) (h1 : ay ≤ y) (h2 : y ≤ b_y) (t3 : ax < t + N) (t4 : bx < t + N) (k : Nat) (t1 : t + k ≤ ax) (t2 : t + k ≤ bx) :
    row ax ay bx b_y N y t = row ax ay bx b_y N y (t + k) + 2 * k := by
  induction k with
  | zero => simp
  | succ k ih =>
    have e := ih (by rw [Int.natCast_add] at t1; omega) (by rw [Int.natCast_add] at t2; omega)
    have s := row_slide1 (N := N) (t := t + k) (ax := ax) (bx := bx) hu h1 h2 (by omega) (by omega) (by omega) (by omega)
    rw [show t + ((k + 1 : Nat) : Int) = t + k + 1 by omega]
    omega
theorem row_diff {ax ay bx b_y y B : Int} {M : Nat} (hu : ay < b_y) (h1 : ay ≤ y) (h2 : y ≤ b_y) (ha : -B ≤ ax ∧ ax ≤ B) (hb : -B ≤ bx ∧ bx ≤ B) (hM : 4 * B ≤ M) :
    row ax ay bx b_y (2 * M + 1) y (-M) = row ax ay bx b_y (2 * M + 1) y (ax + bx - M) + 2 * (ax + bx) := by
  rcases Int.le_total 0 (ax + bx) with q | q
  · have := row_slide (N := 2 * M + 1) (t := -M) (ax := ax) (bx := bx) hu h1 h2 (by omega) (by omega) (ax + bx).toNat (by omega) (by omega)
    rw [show -(M : Int) + ((ax + bx).toNat : Int) = ax + bx - M by omega, show ((ax + bx).toNat : Int) = ax + bx by omega] at this
    exact this
  · have := row_slide (N := 2 * M + 1) (t := ax + bx - M) (ax := ax) (bx := bx) hu h1 h2 (by omega) (by omega) (-(ax + bx)).toNat (by omega) (by omega)
    rw [show ax + bx - M + ((-(ax + bx)).toNat : Int) = -M by omega, show ((-(ax + bx)).toNat : Int) = -(ax + bx) by omega] at this
    omega
theorem row_refl {ax ay bx b_y y : Int} {M : Nat} : row ax ay bx b_y (2 * M + 1) y (-M) = -row ax ay bx b_y (2 * M + 1) (ay + b_y - y) (ax + bx - M) := by
  unfold row
  rw [← sm_neg, ← sm_rev]
  refine sm_congr (fun j _ hj => ?_)
  unfold fc
  rw [← sgn_opp']
  congr 1
  rw [show ((2 * M + 1 - 1 - j : Nat) : Int) = 2 * M - j by omega]
  unfold cro; grind
def wS (ay b_y y : Int) : Int := ((sgn (b_y - y) - sgn (ay - y)).natAbs : Int)
theorem wS_sum {ay : Int} {k : Nat} (hk : 0 < k) : sm 0 (k + 1) (fun i => wS ay (ay + k) (ay + i)) = 2 * k := by
  have e : sm 0 (k + 1) (fun i => wS ay (ay + k) (ay + i)) = sm 0 (k + 1) (fun i => (fun i : Nat => if i = 0 then (0 : Int) else if i ≤ k then 2 * i - 1 else 2 * k) (i + 1) - (fun i : Nat => if i = 0 then (0 : Int) else if i ≤ k then 2 * i - 1 else 2 * k) i) :=
    sm_congr (fun i _ hi => by
      unfold wS
      dsimp only
      rw [show ay + (k : Int) - (ay + i) = k - i by omega, show ay - (ay + (i : Int)) = -i by omega]
      by_cases c : i = 0
      · subst c
        rw [sgn_pos (by omega), if_neg (by omega), if_pos (by omega), if_pos rfl]; simp [sgn]
      · rw [sgn_neg (x := -(i : Int)) (by omega), if_neg (by omega), if_neg c]
        by_cases d : i = k
        · subst d
          rw [if_neg (by omega), if_pos (by omega), Int.sub_self, sgn_zero]; omega
        · rw [if_pos (by omega), if_pos (by omega), sgn_pos (by omega)]; omega)
  rw [e, sm_tele 0 (k + 1) (fun i : Nat => if i = 0 then (0 : Int) else if i ≤ k then 2 * i - 1 else 2 * k)]
  rw [if_neg (by omega), if_neg (by omega), if_pos rfl]
  omega
/-- The sum over the lattice from -M to M. -/
def lat (M : Nat) (F : Int → Int → Int) : Int := sm 0 (2 * M + 1) (fun i => sm 0 (2 * M + 1) (fun j => F (-M + j) (-M + i)))
def gS (ax ay bx b_y x y : Int) : Int := g4 (ax - x) (ay - y) (bx - x) (b_y - y)
theorem gS_swap (ax ay bx b_y x y : Int) : gS bx b_y ax ay x y = -gS ax ay bx b_y x y := by
  unfold gS g4
  rw [cro_swap (ax - x) (ay - y), sgn_opp', Int.mul_neg, show (sgn (ay - y) - sgn (b_y - y)).natAbs = (sgn (b_y - y) - sgn (ay - y)).natAbs by omega]
theorem lat_neg (M : Nat) (F : Int → Int → Int) : lat M (fun x y => -F x y) = -lat M F := by
  unfold lat; rw [← sm_neg]; exact sm_congr (fun i _ _ => sm_neg _ _ _)
theorem lat_up {ax ay bx b_y B : Int} {M : Nat} (hu : ay < b_y) (ha : -B ≤ ax ∧ ax ≤ B) (hb : -B ≤ bx ∧ bx ≤ B) (ha' : -B ≤ ay ∧ ay ≤ B) (hb' : -B ≤ b_y ∧ b_y ≤ B) (hM : 4 * B ≤ M) :
    lat M (gS ax ay bx b_y) = 2 * (ax + bx) * (b_y - ay) := by
  obtain ⟨k, rfl⟩ : ∃ k : Nat, b_y = ay + k := ⟨(b_y - ay).toNat, by omega⟩
  have hk : 0 < k := by omega
  obtain ⟨p, hp⟩ : ∃ p : Nat, (p : Int) = ay + M := ⟨(ay + M).toNat, by omega⟩
  have r : ∀ i, sm 0 (2 * M + 1) (fun j => gS ax ay bx (ay + k) (-M + j) (-M + i)) = wS ay (ay + k) (-M + i) * row ax ay bx (ay + k) (2 * M + 1) (-M + i) (-M) := fun i => by
    unfold row; rw [← sm_mul]; rfl
  have e0 : lat M (gS ax ay bx (ay + k)) = sm 0 (2 * M + 1) (fun i => wS ay (ay + k) (-M + i) * row ax ay bx (ay + k) (2 * M + 1) (-M + i) (-M)) := sm_congr (fun i _ _ => r i)
  rw [e0]
  obtain ⟨q, hq⟩ : ∃ q, 2 * M + 1 = p + ((k + 1) + q) := ⟨2 * M - p - k, by omega⟩
  have e1 : ∀ F : Nat → Int, (∀ i, i < p → F i = 0) → (∀ i, p + k < i → F i = 0) → sm 0 (2 * M + 1) F = sm 0 (k + 1) (fun i => F (p + i)) := by
    intro F h1 h2
    rw [hq, sm_split, sm_split, sm_zero (fun j _ hj => h1 j (by omega)), sm_zero (lo := 0 + p + (k + 1)) (fun j hj _ => h2 j (by omega)), Nat.zero_add, sm_sh]
    omega
  rw [e1 _ (fun i hi => by
      have : wS ay (ay + k) (-M + i) = 0 := by unfold wS; rw [sgn_pos (by omega), sgn_pos (by omega)]; rfl
      rw [this, Int.zero_mul]) (fun i hi => by
      have : wS ay (ay + k) (-M + i) = 0 := by unfold wS; rw [sgn_neg (by omega), sgn_neg (by omega)]; rfl
      rw [this, Int.zero_mul])]
  have e2 : ∀ i : Nat, -(M : Int) + ((p + i : Nat) : Int) = ay + i := fun i => by omega
  simp only [e2]
  have s1 : sm 0 (k + 1) (fun i => wS ay (ay + k) (ay + i) * row ax ay bx (ay + k) (2 * M + 1) (ay + i) (-M)) =
      -sm 0 (k + 1) (fun i => wS ay (ay + k) (ay + i) * row ax ay bx (ay + k) (2 * M + 1) (ay + i) (ax + bx - M)) := by
    rw [← sm_neg, ← sm_rev (k + 1) (fun i => -(wS ay (ay + k) (ay + i) * row ax ay bx (ay + k) (2 * M + 1) (ay + i) (ax + bx - M)))]
    refine sm_congr (fun i _ hi => ?_)
    have w : wS ay (ay + k) (ay + ((k + 1 - 1 - i : Nat) : Int)) = wS ay (ay + k) (ay + i) := by
      unfold wS
      rw [show ay + (k : Int) - (ay + ((k + 1 - 1 - i : Nat) : Int)) = i by omega, show ay - (ay + ((k + 1 - 1 - i : Nat) : Int)) = -(k - i) by omega, show ay + (k : Int) - (ay + i) = k - i by omega, show ay - (ay + (i : Int)) = -i by omega, sgn_opp', sgn_opp']
      omega
    rw [w, row_refl, show ay + (ay + (k : Int)) - (ay + i) = ay + ((k + 1 - 1 - i : Nat) : Int) by omega, Int.mul_neg]
  have s2 : sm 0 (k + 1) (fun i => wS ay (ay + k) (ay + i) * row ax ay bx (ay + k) (2 * M + 1) (ay + i) (-M)) =
      sm 0 (k + 1) (fun i => wS ay (ay + k) (ay + i) * row ax ay bx (ay + k) (2 * M + 1) (ay + i) (ax + bx - M)) + 2 * (ax + bx) * (2 * k) := by
    rw [← wS_sum hk, ← sm_mul, ← sm_add]
    refine sm_congr (fun i _ hi => ?_)
    rw [row_diff (B := B) (by omega) (by omega) (by omega) ha hb hM]
    rw [Int.mul_add, Int.mul_comm (2 * (ax + bx))]
  rw [show ay + (k : Int) - ay = k by omega]
  have : 2 * (ax + bx) * (2 * (k : Int)) = 2 * (2 * (ax + bx) * k) := by grind
  omega
theorem lat_side {ax ay bx b_y B : Int} {M : Nat} (ha : -B ≤ ax ∧ ax ≤ B) (hb : -B ≤ bx ∧ bx ≤ B) (ha' : -B ≤ ay ∧ ay ≤ B) (hb' : -B ≤ b_y ∧ b_y ≤ B) (hM : 4 * B ≤ M) :
    lat M (gS ax ay bx b_y) = 2 * (ax + bx) * (b_y - ay) := by
  rcases Int.lt_trichotomy ay b_y with q | q | q
  · exact lat_up q ha hb ha' hb' hM
  · subst q
    rw [Int.sub_self, Int.mul_zero]
    unfold lat
    refine sm_zero (fun i _ _ => sm_zero (fun j _ _ => ?_))
    unfold gS g4
    rw [Int.sub_self]; simp
  · have e := lat_up q hb ha hb' ha' hM
    have : lat M (gS bx b_y ax ay) = -lat M (gS ax ay bx b_y) := by
      rw [← lat_neg]
      unfold lat
      exact sm_congr (fun i _ _ => sm_congr (fun j _ _ => gS_swap _ _ _ _ _ _))
    rw [this] at e
    have : 2 * (ax + bx) * (b_y - ay) = -(2 * (bx + ax) * (ay - b_y)) := by grind
    omega
/-- Four times the half crossings of a polygon. -/
def c4 (n : Nat) (X Y : Nat → Int) (x y : Int) : Int := sm 0 n (fun j => gS (X j) (Y j) (X (j + 1)) (Y (j + 1)) x y)
def areaI (n : Nat) (X Y : Nat → Int) : Int := sm 0 n (fun i => X i * Y (i + 1) - X (i + 1) * Y i)
theorem lat_area {n : Nat} {X Y : Nat → Int} (px : X n = X 0) (py : Y n = Y 0) {B : Int} {M : Nat} (hX : ∀ i, -B ≤ X i ∧ X i ≤ B) (hY : ∀ i, -B ≤ Y i ∧ Y i ≤ B) (hM : 4 * B ≤ M) : lat M (c4 n X Y) = 2 * areaI n X Y := by
  have e : lat M (c4 n X Y) = sm 0 n (fun j => lat M (gS (X j) (Y j) (X (j + 1)) (Y (j + 1)))) := by
    unfold lat c4
    rw [← sm_swp (2 * M + 1) n 0 0 (fun i j => sm 0 (2 * M + 1) (fun t => gS (X j) (Y j) (X (j + 1)) (Y (j + 1)) (-M + t) (-M + i)))]
    exact sm_congr (fun i _ _ => sm_swp _ _ _ _ _)
  rw [e]
  have e2 : sm 0 n (fun j => lat M (gS (X j) (Y j) (X (j + 1)) (Y (j + 1)))) = sm 0 n (fun j => 2 * (X j * Y (j + 1) - X (j + 1) * Y j) + ((fun j => 2 * (X j * Y j)) (j + 1) - (fun j => 2 * (X j * Y j)) j)) :=
    sm_congr (fun j _ _ => by rw [lat_side (hX j) (hX (j + 1)) (hY j) (hY (j + 1)) hM]; grind)
  rw [e2, sm_add, sm_tele 0 n (fun j => 2 * (X j * Y j)), sm_mul, Nat.zero_add, px, py]
  unfold areaI
  omega
end Go.Proofs.Ytgdhgncdpmalcaa.Geo
