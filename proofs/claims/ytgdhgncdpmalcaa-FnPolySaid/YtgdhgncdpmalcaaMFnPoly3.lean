/- Part 3 of what the proof of this law rests on: the functions of the translation as plain Lean functions with their walks, and the plain laws behind. -/
import Derived.Test.YtgdhgncdpmalcaaMFnPoly2
namespace Go.Proofs.Ytgdhgncdpmalcaa.Q
open Go.RowKit Go.Proofs.YtgdhgncdpmalcaaW.PrintWords Go.Proofs.YtgdhgncdpmalcaaW.PrintLast Go.Proofs.YtgdhgncdpmalcaaW.PrintMore
attribute [local go_sem] max2_int min2_int max_two min_two max_three min_three max_four min_four
set_option linter.unusedVariables false
set_option linter.unusedSimpArgs false

/-! ### spec_l92Box: function 59 -/
def spec_l92Box.j0 : Nat → Int → Int → List (S32) → Bool → List Int → Int → Option ((List (S32)) × Int)
  | 0, _, _, _, _, _, _ => none
  | k + 1, x3, x4, x7, x47, x1000, x1001 => if x47 = true then ((some (([(⟨x3, x4⟩ : S32), (⟨wrap64 (x3 + 1), x4⟩ : S32)] : List (S32)) : List (S32))).bind fun y135 => (if 1 ≤ (x7.length : Int) then ((some (x7.drop 1 : List (S32))).bind fun y138 => (if y135.length + y138.length < 8796093022208 then ((some (y135 ++ y138 : List (S32))).bind fun y142 => ((spec_l6Rd_pick.f k x1000 x1001 3).bind fun bt145 => (if bt145.1 = 0 then (if 1 ≤ y142.length ∧ y142.length ≤ 100 then (some (y142.drop 1 ++ [rd_T32 y142 0], bt145.2)) else none) else (some (y142, bt145.2))))) else (none))) else (none))) else ((spec_l6Rd_pick.f k x1000 x1001 3).bind fun bt147 => (if bt147.1 = 0 then (if 1 ≤ x7.length ∧ x7.length ≤ 100 then (some (x7.drop 1 ++ [rd_T32 x7 0], bt147.2)) else none) else (some (x7, bt147.2))))
def spec_l92Box.f (k : Nat) (s0_0 : List Int) (s0_1 : Int) : Option ((List (S32)) × Int) := (spec_l6Rd_pick.f k s0_0 s0_1 5).bind fun bt122 => ((spec_l6Rd_pick.f k s0_0 bt122.2 5).bind fun bt124 => ((spec_l6Rd_pick.f k s0_0 bt124.2 5).bind fun bt126 => ((spec_l6Rd_pick.f k s0_0 bt126.2 5).bind fun bt128 => ((some (([(⟨wrap64 (bt122.1 - 2), wrap64 (bt124.1 - 2)⟩ : S32), (⟨wrap64 ((wrap64 (bt122.1 - 2)) + (wrap64 (1 + bt126.1))), wrap64 (bt124.1 - 2)⟩ : S32), (⟨wrap64 ((wrap64 (bt122.1 - 2)) + (wrap64 (1 + bt126.1))), wrap64 ((wrap64 (bt124.1 - 2)) + (wrap64 (1 + bt128.1)))⟩ : S32), (⟨wrap64 (bt122.1 - 2), wrap64 ((wrap64 (bt124.1 - 2)) + (wrap64 (1 + bt128.1)))⟩ : S32)] : List (S32)) : List (S32))).bind fun y130 => (if (wrap64 (1 + bt126.1)) > 1 then ((spec_l6Rd_pick.f k s0_0 bt128.2 2).bind fun bt133 => (spec_l92Box.j0 k (wrap64 (bt122.1 - 2)) (wrap64 (bt124.1 - 2)) y130 (bt133.1 == 0) s0_0 bt133.2)) else (spec_l92Box.j0 k (wrap64 (bt122.1 - 2)) (wrap64 (bt124.1 - 2)) y130 false s0_0 bt128.2))))))
set_option maxHeartbeats 8000000 in
set_option maxRecDepth 100000 in
theorem spec_l92Box.calls (k : Nat) (g : Nat) (s0_0 : List Int) (s0_1 : Int) (r1 : List (S32)) (r2 : Int) (w0 w : World) (hI : IsS81 w0 w g s0_0 s0_1) (hB : Below w0.heap.size w0 w) (h : spec_l92Box.f k s0_0 s0_1 = some (r1, r2)) :
    Calls Try.prog 59 #[.pointer (some ⟨g, 0, none⟩)] w fun e w' => ∃ v0_ : Value, e = .returned (v0_) ∧ Kd.Q k32 32 w' w.heap.size (fun _ => True) v0_ r1 ∧ IsS81 w0 w' g s0_0 r2 ∧ Below w0.heap.size w0 w' ∧ KeepBut w w' g none := by
  have hu32 := Try.underlying32
  have HI0 := Aside0.mk hI
  have HK := Aside0.mk (KeepBut.refl w g none)
  have HL := Aside0.mk hB.size
  clear hI
  have HW0 := Aside0.mk hB.size
  have HB := Aside0.mk hB
  clear hB
  have H : ((spec_l6Rd_pick.f k s0_0 s0_1 5).bind fun bt122 => ((spec_l6Rd_pick.f k s0_0 bt122.2 5).bind fun bt124 => ((spec_l6Rd_pick.f k s0_0 bt124.2 5).bind fun bt126 => ((spec_l6Rd_pick.f k s0_0 bt126.2 5).bind fun bt128 => ((some (([(⟨wrap64 (bt122.1 - 2), wrap64 (bt124.1 - 2)⟩ : S32), (⟨wrap64 ((wrap64 (bt122.1 - 2)) + (wrap64 (1 + bt126.1))), wrap64 (bt124.1 - 2)⟩ : S32), (⟨wrap64 ((wrap64 (bt122.1 - 2)) + (wrap64 (1 + bt126.1))), wrap64 ((wrap64 (bt124.1 - 2)) + (wrap64 (1 + bt128.1)))⟩ : S32), (⟨wrap64 (bt122.1 - 2), wrap64 ((wrap64 (bt124.1 - 2)) + (wrap64 (1 + bt128.1)))⟩ : S32)] : List (S32)) : List (S32))).bind fun y130 => (if (wrap64 (1 + bt126.1)) > 1 then ((spec_l6Rd_pick.f k s0_0 bt128.2 2).bind fun bt133 => (spec_l92Box.j0 k (wrap64 (bt122.1 - 2)) (wrap64 (bt124.1 - 2)) y130 (bt133.1 == 0) s0_0 bt133.2)) else (spec_l92Box.j0 k (wrap64 (bt122.1 - 2)) (wrap64 (bt124.1 - 2)) y130 false s0_0 bt128.2))))))) = some (r1, r2) := h
  clear h
  replace H := Option.bind_eq_some_iff.mp H
  obtain ⟨⟨t122, t123⟩, A20, H⟩ := H
  replace H : ((spec_l6Rd_pick.f k s0_0 t123 5).bind fun bt124 => ((spec_l6Rd_pick.f k s0_0 bt124.2 5).bind fun bt126 => ((spec_l6Rd_pick.f k s0_0 bt126.2 5).bind fun bt128 => ((some (([(⟨wrap64 (t122 - 2), wrap64 (bt124.1 - 2)⟩ : S32), (⟨wrap64 ((wrap64 (t122 - 2)) + (wrap64 (1 + bt126.1))), wrap64 (bt124.1 - 2)⟩ : S32), (⟨wrap64 ((wrap64 (t122 - 2)) + (wrap64 (1 + bt126.1))), wrap64 ((wrap64 (bt124.1 - 2)) + (wrap64 (1 + bt128.1)))⟩ : S32), (⟨wrap64 (t122 - 2), wrap64 ((wrap64 (bt124.1 - 2)) + (wrap64 (1 + bt128.1)))⟩ : S32)] : List (S32)) : List (S32))).bind fun y130 => (if (wrap64 (1 + bt126.1)) > 1 then ((spec_l6Rd_pick.f k s0_0 bt128.2 2).bind fun bt133 => (spec_l92Box.j0 k (wrap64 (t122 - 2)) (wrap64 (bt124.1 - 2)) y130 (bt133.1 == 0) s0_0 bt133.2)) else (spec_l92Box.j0 k (wrap64 (t122 - 2)) (wrap64 (bt124.1 - 2)) y130 false s0_0 bt128.2)))))) = some (r1, r2) := H
  have A2 := Aside0.mk A20
  clear A20
  replace H := Option.bind_eq_some_iff.mp H
  obtain ⟨⟨t124, t125⟩, A30, H⟩ := H
  replace H : ((spec_l6Rd_pick.f k s0_0 t125 5).bind fun bt126 => ((spec_l6Rd_pick.f k s0_0 bt126.2 5).bind fun bt128 => ((some (([(⟨wrap64 (t122 - 2), wrap64 (t124 - 2)⟩ : S32), (⟨wrap64 ((wrap64 (t122 - 2)) + (wrap64 (1 + bt126.1))), wrap64 (t124 - 2)⟩ : S32), (⟨wrap64 ((wrap64 (t122 - 2)) + (wrap64 (1 + bt126.1))), wrap64 ((wrap64 (t124 - 2)) + (wrap64 (1 + bt128.1)))⟩ : S32), (⟨wrap64 (t122 - 2), wrap64 ((wrap64 (t124 - 2)) + (wrap64 (1 + bt128.1)))⟩ : S32)] : List (S32)) : List (S32))).bind fun y130 => (if (wrap64 (1 + bt126.1)) > 1 then ((spec_l6Rd_pick.f k s0_0 bt128.2 2).bind fun bt133 => (spec_l92Box.j0 k (wrap64 (t122 - 2)) (wrap64 (t124 - 2)) y130 (bt133.1 == 0) s0_0 bt133.2)) else (spec_l92Box.j0 k (wrap64 (t122 - 2)) (wrap64 (t124 - 2)) y130 false s0_0 bt128.2))))) = some (r1, r2) := H
  have A3 := Aside0.mk A30
  clear A30
  replace H := Option.bind_eq_some_iff.mp H
  obtain ⟨⟨t126, t127⟩, A40, H⟩ := H
  replace H : ((spec_l6Rd_pick.f k s0_0 t127 5).bind fun bt128 => ((some (([(⟨wrap64 (t122 - 2), wrap64 (t124 - 2)⟩ : S32), (⟨wrap64 ((wrap64 (t122 - 2)) + (wrap64 (1 + t126))), wrap64 (t124 - 2)⟩ : S32), (⟨wrap64 ((wrap64 (t122 - 2)) + (wrap64 (1 + t126))), wrap64 ((wrap64 (t124 - 2)) + (wrap64 (1 + bt128.1)))⟩ : S32), (⟨wrap64 (t122 - 2), wrap64 ((wrap64 (t124 - 2)) + (wrap64 (1 + bt128.1)))⟩ : S32)] : List (S32)) : List (S32))).bind fun y130 => (if (wrap64 (1 + t126)) > 1 then ((spec_l6Rd_pick.f k s0_0 bt128.2 2).bind fun bt133 => (spec_l92Box.j0 k (wrap64 (t122 - 2)) (wrap64 (t124 - 2)) y130 (bt133.1 == 0) s0_0 bt133.2)) else (spec_l92Box.j0 k (wrap64 (t122 - 2)) (wrap64 (t124 - 2)) y130 false s0_0 bt128.2)))) = some (r1, r2) := H
  have A4 := Aside0.mk A40
  clear A40
  replace H := Option.bind_eq_some_iff.mp H
  obtain ⟨⟨t128, t129⟩, A50, H⟩ := H
  replace H : ((some (([(⟨wrap64 (t122 - 2), wrap64 (t124 - 2)⟩ : S32), (⟨wrap64 ((wrap64 (t122 - 2)) + (wrap64 (1 + t126))), wrap64 (t124 - 2)⟩ : S32), (⟨wrap64 ((wrap64 (t122 - 2)) + (wrap64 (1 + t126))), wrap64 ((wrap64 (t124 - 2)) + (wrap64 (1 + t128)))⟩ : S32), (⟨wrap64 (t122 - 2), wrap64 ((wrap64 (t124 - 2)) + (wrap64 (1 + t128)))⟩ : S32)] : List (S32)) : List (S32))).bind fun y130 => (if (wrap64 (1 + t126)) > 1 then ((spec_l6Rd_pick.f k s0_0 t129 2).bind fun bt133 => (spec_l92Box.j0 k (wrap64 (t122 - 2)) (wrap64 (t124 - 2)) y130 (bt133.1 == 0) s0_0 bt133.2)) else (spec_l92Box.j0 k (wrap64 (t122 - 2)) (wrap64 (t124 - 2)) y130 false s0_0 t129))) = some (r1, r2) := H
  have A5 := Aside0.mk A50
  clear A50
  obtain ⟨y130, hy130⟩ : ∃ y_ : List (S32), y_ = (([(⟨wrap64 (t122 - 2), wrap64 (t124 - 2)⟩ : S32), (⟨wrap64 ((wrap64 (t122 - 2)) + (wrap64 (1 + t126))), wrap64 (t124 - 2)⟩ : S32), (⟨wrap64 ((wrap64 (t122 - 2)) + (wrap64 (1 + t126))), wrap64 ((wrap64 (t124 - 2)) + (wrap64 (1 + t128)))⟩ : S32), (⟨wrap64 (t122 - 2), wrap64 ((wrap64 (t124 - 2)) + (wrap64 (1 + t128)))⟩ : S32)] : List (S32))) := ⟨_, rfl⟩
  replace H : (if (wrap64 (1 + t126)) > 1 then ((spec_l6Rd_pick.f k s0_0 t129 2).bind fun bt133 => (spec_l92Box.j0 k (wrap64 (t122 - 2)) (wrap64 (t124 - 2)) y130 (bt133.1 == 0) s0_0 bt133.2)) else (spec_l92Box.j0 k (wrap64 (t122 - 2)) (wrap64 (t124 - 2)) y130 false s0_0 t129)) = some (r1, r2) := by first | (rw [hy130]; with_reducible exact H) | (have H2_ := (Option.bind_some _ _).symm.trans H; rw [hy130]; with_reducible exact H2_) | (have H2_ := (Option.bind_some _ _).symm.trans H; with_reducible exact H2_) | with_reducible exact H | (rw [hy130]; exact H) | exact H
  have Ny130 := Aside0.mk hy130
  clear hy130
  have HC6 := Aside0.mk H
  clear H
  go_enter Try.func59, Try.ntmps59
  go_upto_region 6 with (first | ((with_reducible refine gate_callee (f := 48) rfl ?_); refine goesL_ (some 9) rfl rfl Try.func48 (by kernel_rfl) rfl #[.pointer (some ⟨g, 0, none⟩), .int .i64 5] rfl qq2 ?_; (with_reducible refine (spec_l6Rd_pick.calls k g s0_0 s0_1 5 t122 t123 w0 _ ?side1 ?side2 A2.out).mono ?_); (case side1 => exact qq6 HI0.out); (case side2 => exact qq5 HB.out HI0.out); rintro e w7 ⟨rfl, hi, hb, hk⟩; refine ⟨_, rfl, ?_⟩; have n0_ := Aside0.mk (KeepBut.trans qq3 hk (.inl rfl)); have n1_ := Aside0.mk (hb); have n2_ := Aside0.mk (hi); clear HK; clear HB; clear HI0; have HK := n0_; have HB := n1_; have HI0 := n2_; clear n0_ n1_ n2_; (try clear hb); (try clear hb2); (try clear hk); (try clear hi)) | ((with_reducible refine gate_callee (f := 48) rfl ?_); refine goesL_ (some 12) rfl rfl Try.func48 (by kernel_rfl) rfl #[.pointer (some ⟨g, 0, none⟩), .int .i64 5] rfl qq2 ?_; (with_reducible refine (spec_l6Rd_pick.calls k g s0_0 t123 5 t124 t125 w0 _ ?side1 ?side2 A3.out).mono ?_); (case side1 => exact qq6 HI0.out); (case side2 => exact qq5 HB.out HI0.out); rintro e w8 ⟨rfl, hi, hb, hk⟩; refine ⟨_, rfl, ?_⟩; have n0_ := Aside0.mk (KeepBut.trans qq3 hk (.inl rfl)); have n1_ := Aside0.mk (hb); have n2_ := Aside0.mk (hi); clear HK; clear HB; clear HI0; have HK := n0_; have HB := n1_; have HI0 := n2_; clear n0_ n1_ n2_; (try clear hb); (try clear hb2); (try clear hk); (try clear hi)) | ((with_reducible refine gate_callee (f := 48) rfl ?_); refine goesL_ (some 15) rfl rfl Try.func48 (by kernel_rfl) rfl #[.pointer (some ⟨g, 0, none⟩), .int .i64 5] rfl qq2 ?_; (with_reducible refine (spec_l6Rd_pick.calls k g s0_0 t125 5 t126 t127 w0 _ ?side1 ?side2 A4.out).mono ?_); (case side1 => exact qq6 HI0.out); (case side2 => exact qq5 HB.out HI0.out); rintro e w9 ⟨rfl, hi, hb, hk⟩; refine ⟨_, rfl, ?_⟩; have n0_ := Aside0.mk (KeepBut.trans qq3 hk (.inl rfl)); have n1_ := Aside0.mk (hb); have n2_ := Aside0.mk (hi); clear HK; clear HB; clear HI0; have HK := n0_; have HB := n1_; have HI0 := n2_; clear n0_ n1_ n2_; (try clear hb); (try clear hb2); (try clear hk); (try clear hi)) | ((with_reducible refine gate_callee (f := 48) rfl ?_); refine goesL_ (some 18) rfl rfl Try.func48 (by kernel_rfl) rfl #[.pointer (some ⟨g, 0, none⟩), .int .i64 5] rfl qq2 ?_; (with_reducible refine (spec_l6Rd_pick.calls k g s0_0 t127 5 t128 t129 w0 _ ?side1 ?side2 A5.out).mono ?_); (case side1 => exact qq6 HI0.out); (case side2 => exact qq5 HB.out HI0.out); rintro e w10 ⟨rfl, hi, hb, hk⟩; refine ⟨_, rfl, ?_⟩; have n0_ := Aside0.mk (KeepBut.trans qq3 hk (.inl rfl)); have n1_ := Aside0.mk (hb); have n2_ := Aside0.mk (hi); clear HK; clear HB; clear HI0; have HK := n0_; have HB := n1_; have HI0 := n2_; clear n0_ n1_ n2_; (try clear hb); (try clear hb2); (try clear hk); (try clear hi)) | ((with_reducible refine gate_dst (N := 40) rfl ?_); refine Kd.R_lit k32 _ 32 ?hg (N := 40) ?hd (xs := ([(⟨wrap64 (t122 - 2), wrap64 (t124 - 2)⟩ : S32), (⟨wrap64 ((wrap64 (t122 - 2)) + (wrap64 (1 + t126))), wrap64 (t124 - 2)⟩ : S32), (⟨wrap64 ((wrap64 (t122 - 2)) + (wrap64 (1 + t126))), wrap64 ((wrap64 (t124 - 2)) + (wrap64 (1 + t128)))⟩ : S32), (⟨wrap64 (t122 - 2), wrap64 ((wrap64 (t124 - 2)) + (wrap64 (1 + t128)))⟩ : S32)] : List (S32))) (inner := [.int .i64 (wrap64 (t122 - 2)), .int .i64 (wrap64 (t124 - 2)), .int .i64 (wrap64 ((wrap64 (t122 - 2)) + (wrap64 (1 + t126)))), .int .i64 (wrap64 (t124 - 2)), .int .i64 (wrap64 ((wrap64 (t122 - 2)) + (wrap64 (1 + t126)))), .int .i64 (wrap64 ((wrap64 (t124 - 2)) + (wrap64 (1 + t128)))), .int .i64 (wrap64 (t122 - 2)), .int .i64 (wrap64 ((wrap64 (t124 - 2)) + (wrap64 (1 + t128))))]) (ok := fun _ => True) (okp := fun _ => True) ?hr ?hp (fun _ hk => hk) trivial (Below.refl _ _) (Nat.le_refl _) (by simp) ?_; (case hd => rfl); (case hg => rfl); (case hr => exact qq21); (case hp => exact (Reps.c2 (show Kd.M k32 _ _ _ (⟨wrap64 (t122 - 2), wrap64 (t124 - 2)⟩ : S32) [.int .i64 (wrap64 (t122 - 2)), .int .i64 (wrap64 (t124 - 2))] from (k32_mkM _ _ _ (⟨wrap64 (t122 - 2), wrap64 (t124 - 2)⟩ : S32) )) (Reps.c2 (show Kd.M k32 _ _ _ (⟨wrap64 ((wrap64 (t122 - 2)) + (wrap64 (1 + t126))), wrap64 (t124 - 2)⟩ : S32) [.int .i64 (wrap64 ((wrap64 (t122 - 2)) + (wrap64 (1 + t126)))), .int .i64 (wrap64 (t124 - 2))] from (k32_mkM _ _ _ (⟨wrap64 ((wrap64 (t122 - 2)) + (wrap64 (1 + t126))), wrap64 (t124 - 2)⟩ : S32) )) (Reps.c2 (show Kd.M k32 _ _ _ (⟨wrap64 ((wrap64 (t122 - 2)) + (wrap64 (1 + t126))), wrap64 ((wrap64 (t124 - 2)) + (wrap64 (1 + t128)))⟩ : S32) [.int .i64 (wrap64 ((wrap64 (t122 - 2)) + (wrap64 (1 + t126)))), .int .i64 (wrap64 ((wrap64 (t124 - 2)) + (wrap64 (1 + t128))))] from (k32_mkM _ _ _ (⟨wrap64 ((wrap64 (t122 - 2)) + (wrap64 (1 + t126))), wrap64 ((wrap64 (t124 - 2)) + (wrap64 (1 + t128)))⟩ : S32) )) (Reps.c2 (show Kd.M k32 _ _ _ (⟨wrap64 (t122 - 2), wrap64 ((wrap64 (t124 - 2)) + (wrap64 (1 + t128)))⟩ : S32) [.int .i64 (wrap64 (t122 - 2)), .int .i64 (wrap64 ((wrap64 (t124 - 2)) + (wrap64 (1 + t128))))] from (k32_mkM _ _ _ (⟨wrap64 (t122 - 2), wrap64 ((wrap64 (t124 - 2)) + (wrap64 (1 + t128)))⟩ : S32) )) (Reps.none _ _)))))); intro v131 w11 ho12 hb hg_ hnew_; clear hg_ hnew_; (first | rw [← Ny130.out] at ho12 | (simp only [Int.reduceToNat] at ho12; rw [← Ny130.out] at ho12)); have n0_ := Aside0.mk (Kd.R_lower ho12 (keep_size (w := w) (g := g) (row := none) qq3)); have n1_ := Aside0.mk (IsS81.below (qq6 HI0.out) hb); have n2_ := Aside0.mk (KeepBut.trans qq3 (KeepBut.of_below hb g none) (.inl rfl)); have n3_ := Aside0.mk (below_step (qq5 HB.out HI0.out) hb); clear HI0; clear HK; clear HB; have HO132 := n0_; have HI0 := n1_; have HK := n2_; have HB := n3_; clear n0_ n1_ n2_ n3_; clear hb ho12))
  (try simp only [Act.put, List.setIfInBounds_toArray, List.set_cons_zero, List.set_cons_succ])
  go_cut [47] (fun v47 wc => ∃ (kq : Nat) (x47_5 : Bool) (x1001_5 : Int), v47 = .bool x47_5 ∧ Aside0 (spec_l92Box.j0 kq (wrap64 (t122 - 2)) (wrap64 (t124 - 2)) y130 x47_5 s0_0 x1001_5 = some (r1, r2)) ∧ Aside0 (kq ≤ k) ∧ Aside0 (Kd.R k32 32 wc w.heap.size (fun _ => True) v131 y130) ∧ Aside0 (IsS81 w0 wc g s0_0 x1001_5) ∧ Aside0 (KeepBut w wc g none) ∧ Aside0 (Below w0.heap.size w0 wc))
  case first =>
    have H := HC6.out
    clear HC6
    by_cases c13 : (wrap64 (1 + t126)) > 1
    · rw [if_pos c13] at H
      have c13b0 : decide (1 < (wrap64 (1 + t126))) = true := decide_eq_true c13
      clear c13
      (first | rw [c13b0] | (simp only [i64_w, i32_w]; rw [c13b0]) | skip)
      replace H := Option.bind_eq_some_iff.mp H
      obtain ⟨⟨t133, t134⟩, A140, H⟩ := H
      replace H : (spec_l92Box.j0 k (wrap64 (t122 - 2)) (wrap64 (t124 - 2)) y130 (t133 == 0) s0_0 t134) = some (r1, r2) := H
      have A14 := Aside0.mk A140
      clear A140
      have H' := Aside0.mk H
      clear H
      go_wp2_with (first | (go_at_call 48; (with_reducible refine (spec_l6Rd_pick.calls k g s0_0 t129 2 t133 t134 w0 _ ?side1 ?side2 A14.out).mono ?_); (case side1 => exact qq6 HI0.out); (case side2 => exact qq5 HB.out HI0.out); rintro e w15 ⟨rfl, hi, hb, hk⟩; have n0_ := Aside0.mk (Kd.R_mono (Kd.R_keep (IsS81.apart (show IsS81 w0 _ g s0_0 t129 from by repeat (first | (with_reducible first | exact HI0.out | apply IsS81.alloc | apply IsS81.drewN | apply IsS81.drew | apply IsS81.set_1) | exact HI0.out)) (qq4 HO132.out) (by decide)) hk (fun _ h => h.2)) (fun _ h => h.1)); have n1_ := Aside0.mk (KeepBut.trans qq3 hk (.inl rfl)); have n2_ := Aside0.mk (hb); have n3_ := Aside0.mk (hi); clear HO132; clear HK; clear HB; clear HI0; have HO132 := n0_; have HK := n1_; have HB := n2_; have HI0 := n3_; clear n0_ n1_ n2_ n3_; (try clear hb); (try clear hb2); (try clear hk); (try clear hi)))
      go_meet
      case rel => exact ⟨_, ((t133 == 0)), (t134), qq23, H', ⟨qq46⟩, ⟨qq4 HO132.out⟩, ⟨qq6 HI0.out⟩, ⟨qq3⟩, ⟨qq5 HB.out HI0.out⟩⟩
    · rw [if_neg c13] at H
      have c13b0 : decide (1 < (wrap64 (1 + t126))) = false := decide_eq_false c13
      clear c13
      (first | rw [c13b0] | (simp only [i64_w, i32_w]; rw [c13b0]) | skip)
      have H' := Aside0.mk H
      clear H
      go_wp2
      go_meet
      case rel => exact ⟨_, (false), (t129), qq23, H', ⟨qq46⟩, ⟨qq4 HO132.out⟩, ⟨qq6 HI0.out⟩, ⟨qq3⟩, ⟨qq5 HB.out HI0.out⟩⟩
  case rest =>
    clear HC6
    try clear c1
    try clear c2
    try clear p2
    try clear c4
    try clear c5
    try clear p6
    try clear c13
    try clear c13b0
    obtain ⟨kq, x47_5, x1001_5, rfl, HA, HJ5, HO_7, HI0, HK, HB⟩ := hcut
    cases kq with
    | zero => exact absurd HA.out (by simp [spec_l92Box.j0])
    | succ kj5 =>
      have H := HA.out
      clear HA
      simp only [spec_l92Box.j0] at H
      by_cases c16 : x47_5 = true
      · subst c16
        have H1 : ((some (([(⟨(wrap64 (t122 - 2)), (wrap64 (t124 - 2))⟩ : S32), (⟨wrap64 ((wrap64 (t122 - 2)) + 1), (wrap64 (t124 - 2))⟩ : S32)] : List (S32)) : List (S32))).bind fun y135 => (if 1 ≤ (y130.length : Int) then ((some (y130.drop 1 : List (S32))).bind fun y138 => (if y135.length + y138.length < 8796093022208 then ((some (y135 ++ y138 : List (S32))).bind fun y142 => ((spec_l6Rd_pick.f kj5 s0_0 x1001_5 3).bind fun bt145 => (if bt145.1 = 0 then (if 1 ≤ y142.length ∧ y142.length ≤ 100 then (some (y142.drop 1 ++ [rd_T32 y142 0], bt145.2)) else none) else (some (y142, bt145.2))))) else (none))) else (none))) = some (r1, r2) := by rw [if_pos rfl] at H; exact H
        clear H
        have H := H1
        clear H1
        obtain ⟨y135, hy135⟩ : ∃ y_ : List (S32), y_ = (([(⟨(wrap64 (t122 - 2)), (wrap64 (t124 - 2))⟩ : S32), (⟨wrap64 ((wrap64 (t122 - 2)) + 1), (wrap64 (t124 - 2))⟩ : S32)] : List (S32))) := ⟨_, rfl⟩
        replace H : (if 1 ≤ (y130.length : Int) then ((some (y130.drop 1 : List (S32))).bind fun y138 => (if y135.length + y138.length < 8796093022208 then ((some (y135 ++ y138 : List (S32))).bind fun y142 => ((spec_l6Rd_pick.f kj5 s0_0 x1001_5 3).bind fun bt145 => (if bt145.1 = 0 then (if 1 ≤ y142.length ∧ y142.length ≤ 100 then (some (y142.drop 1 ++ [rd_T32 y142 0], bt145.2)) else none) else (some (y142, bt145.2))))) else (none))) else (none)) = some (r1, r2) := by first | (rw [hy135]; with_reducible exact H) | (have H2_ := (Option.bind_some _ _).symm.trans H; rw [hy135]; with_reducible exact H2_) | (have H2_ := (Option.bind_some _ _).symm.trans H; with_reducible exact H2_) | with_reducible exact H | (rw [hy135]; exact H) | exact H
        have Ny135 := Aside0.mk hy135
        clear hy135
        by_cases c17 : 1 ≤ (y130.length : Int)
        · rw [if_pos c17] at H
          have c17b0 := eq_true c17
          have c17b1 : decide (1 ≤ (y130.length : Int)) = true := decide_eq_true c17
          clear c17
          obtain ⟨y138, hy138⟩ : ∃ y_ : List (S32), y_ = (y130.drop 1) := ⟨_, rfl⟩
          replace H : (if y135.length + y138.length < 8796093022208 then ((some (y135 ++ y138 : List (S32))).bind fun y142 => ((spec_l6Rd_pick.f kj5 s0_0 x1001_5 3).bind fun bt145 => (if bt145.1 = 0 then (if 1 ≤ y142.length ∧ y142.length ≤ 100 then (some (y142.drop 1 ++ [rd_T32 y142 0], bt145.2)) else none) else (some (y142, bt145.2))))) else (none)) = some (r1, r2) := by first | (rw [hy138]; with_reducible exact H) | (have H2_ := (Option.bind_some _ _).symm.trans H; rw [hy138]; with_reducible exact H2_) | (have H2_ := (Option.bind_some _ _).symm.trans H; with_reducible exact H2_) | with_reducible exact H | (rw [hy138]; exact H) | exact H
          have Ny138 := Aside0.mk hy138
          clear hy138
          by_cases c18 : y135.length + y138.length < 8796093022208
          · rw [if_pos c18] at H
            have LMc18 := Aside0.mk c18
            clear c18
            obtain ⟨y142, hy142⟩ : ∃ y_ : List (S32), y_ = (y135 ++ y138) := ⟨_, rfl⟩
            replace H : ((spec_l6Rd_pick.f kj5 s0_0 x1001_5 3).bind fun bt145 => (if bt145.1 = 0 then (if 1 ≤ y142.length ∧ y142.length ≤ 100 then (some (y142.drop 1 ++ [rd_T32 y142 0], bt145.2)) else none) else (some (y142, bt145.2)))) = some (r1, r2) := by first | (rw [hy142]; with_reducible exact H) | (have H2_ := (Option.bind_some _ _).symm.trans H; rw [hy142]; with_reducible exact H2_) | (have H2_ := (Option.bind_some _ _).symm.trans H; with_reducible exact H2_) | with_reducible exact H | (rw [hy142]; exact H) | exact H
            have Ny142 := Aside0.mk hy142
            clear hy142
            replace H := Option.bind_eq_some_iff.mp H
            obtain ⟨⟨t145, t146⟩, A190, H⟩ := H
            replace H : (if t145 = 0 then (if 1 ≤ y142.length ∧ y142.length ≤ 100 then (some (y142.drop 1 ++ [rd_T32 y142 0], t146)) else none) else (some (y142, t146))) = some (r1, r2) := H
            have A19 := Aside0.mk A190
            clear A190
            by_cases c20 : t145 = 0
            · rw [if_pos c20] at H
              have c20b0 : (t145 == 0) = true := beq_iff_eq.mpr c20
              have c20b1 : (t145 != 0) = false := bne_eq_false_iff_eq.mpr c20
              clear c20
              by_cases hl9 : 1 ≤ y142.length ∧ y142.length ≤ 100
              case neg => rw [if_neg hl9] at H; exact absurd H (by simp)
              rw [if_pos hl9] at H
              simp only [Option.some.injEq, Prod.mk.injEq] at H
              obtain ⟨hr1, rfl⟩ := H; have HR1 := Aside0.mk hr1; clear hr1
              go_wp2_with (first | ((with_reducible refine gate_dst (N := 55) rfl ?_); refine Kd.R_lit k32 _ 32 ?hg (N := 55) ?hd (xs := ([(⟨(wrap64 (t122 - 2)), (wrap64 (t124 - 2))⟩ : S32), (⟨wrap64 ((wrap64 (t122 - 2)) + 1), (wrap64 (t124 - 2))⟩ : S32)] : List (S32))) (inner := [.int .i64 (wrap64 (t122 - 2)), .int .i64 (wrap64 (t124 - 2)), .int .i64 (wrap64 ((wrap64 (t122 - 2)) + 1)), .int .i64 (wrap64 (t124 - 2))]) (ok := fun _ => True) (okp := fun _ => True) ?hr ?hp (fun _ hk => hk) trivial (Below.refl _ _) (Nat.le_refl _) (by simp) ?_; (case hd => rfl); (case hg => rfl); (case hr => exact qq21); (case hp => exact qq39); intro v136 w21 ho22 hb hg_ hnew_; clear hg_ hnew_; (first | rw [← Ny135.out] at ho22 | (simp only [Int.reduceToNat] at ho22; rw [← Ny135.out] at ho22)); have n0_ := Aside0.mk (Kd.R_elder' (qq4 HO_7.out) (Kd.R_base ho22) hb); have n1_ := Aside0.mk (Kd.R_lower (Kd.R_new' ho22 (Kd.R_lt (qq4 HO_7.out))) (keep_size (w := w) (g := g) (row := none) qq3)); have n2_ := Aside0.mk (IsS81.below (qq6 HI0.out) hb); have n3_ := Aside0.mk (KeepBut.trans qq3 (KeepBut.of_below hb g none) (.inl rfl)); have n4_ := Aside0.mk (below_step (qq5 HB.out HI0.out) hb); clear HO_7; clear HI0; clear HK; clear HB; have HO_7 := n0_; have HO137 := n1_; have HI0 := n2_; have HK := n3_; have HB := n4_; clear n0_ n1_ n2_ n3_ n4_; clear hb ho22; obtain ⟨Ao24, co24, eo24⟩ := Kd.R_slice HO_7.out; subst eo24; have q23 : (1 : Int) ≤ ((y130.length : Int) : Int) := of_decide_eq_true qq18; obtain ⟨i023, hi023, _, hsz23, _⟩ := info_parts info32; have hroom23 : y130.length ≤ co24 := (Kd.R_reads' HO_7.out).2.1; have hC23 : Kd.C k32 _ Ao24 y130.length y130 := (Kd.R_reads' HO_7.out).2.2; have hcut23 := cut_from (P := Try.prog) 23 32 .i64 Try.underlying23 hi023 2 hsz23 Ao24 y130.length co24 1 (by omega) q23; have hr23 := Kd.C_drop (m := (1 : Int).toNat) (c := co24) hC23 (by omega) hroom23; obtain ⟨A23, hA23⟩ : ∃ Az_, Az_ = (if co24 = (1 : Int).toNat then Ao24 else (Ao24 : Option Addr).map (·.add ((1 : Int).toNat * 2))) := ⟨_, rfl⟩; obtain ⟨c23, hc23⟩ : ∃ cz_, cz_ = co24 - (1 : Int).toNat := ⟨_, rfl⟩; have hy23 : y138.length = y130.length - (1 : Int).toNat := (by rw [Ny138.out, List.length_drop] <;> omega); rw [show (y130).drop (1 : Int).toNat = y138 from Ny138.out.symm] at hr23; replace hr23 : Kd.C k32 _ A23 y138.length y138 := (by rw [hA23]; exact hr23); rw [← hy23, ← hA23, ← hc23] at hcut23; have HR141 := Aside0.mk hr23; have HC141 := Aside0.mk (show y138.length ≤ c23 from by rw [hy23, hc23]; exact Nat.sub_le_sub_right hroom23 _); clear hr23 hC23 hroom23 hi023 hsz23 hc23; have KY23 := Aside0.mk hy23; have KA23 := Aside0.mk hA23; clear hy23 hA23; have KL23 := Aside0.mk (show 1 ≤ y130.length from by omega); replace q23 := eq_true q23) | ((with_reducible refine gate_builtin (b := .append) (xs := #[.tmp 55, .tmp 57]) rfl ?_); at_builtin; refine Kd.R_append_rows k32 w.heap.size rfl (.tmp 55) (.tmp 57) 23 32 (.agg #[(.int .i64 0), (.int .i64 0)]) 16 rfl Try.underlying23 info32 rfl (by decide) (by omega) v136 y135 y138 _ _ _ (fun k_ => some k_ ≠ (.slice Ao24 y130.length co24 : Value).ownBlock) (fun _ => False) rfl rfl ?aO ?aR (fun _ _ h => h) (fun _ h => h.elim) ?aF (Below.refl _ _) ?aS ?aL ?_; (case aR => exact qq54); (case aF => exact (fun k_ hk => Kd.fresh' (Kd.R_lt (qq4 HO_7.out)) k_ hk)); (case aO => exact (qq35 HO137.out)); (case aS => exact qq70); (case aL => have := LMc18.out; omega); intro v143 w25 ho hb hg hat; rw [← Ny142.out] at ho; have n0_ := Aside0.mk (Kd.R_after (ok := (fun _ => True)) (qq4 HO_7.out) hg hat); have n1_ := Aside0.mk (IsS81.grown (qq6 HI0.out) hg (IsS81.own_ne HI0.out HO137.out (by decide))); have n2_ := Aside0.mk (below_weaken (qq5 HB.out HI0.out) HL.out hb); have n3_ := Aside0.mk (KeepBut.trans qq3 (KeepBut.of_grown hg g) (Kd.R_base2 HO137.out)); have n4_ := Aside0.mk ((show Kd.C k32 w25 A23 y138.length y138 from by rw [Ny138.out, KA23.out]; exact Kd.C_drop (m := 1) (c := co24) ((Kd.R_reads' (Kd.R_after (ok := (fun _ => True)) (qq4 HO_7.out) hg hat)).2.2) KL23.out ((Kd.R_reads' (Kd.R_after (ok := (fun _ => True)) (qq4 HO_7.out) hg hat)).2.1))); have n5_ := Aside0.mk (ho); clear HO_7; clear HI0; clear HB; clear HK; clear HR141; clear HO137; have HO_7 := n0_; have HI0 := n1_; have HB := n2_; have HK := n3_; have HR141 := n4_; have HO144 := n5_; clear n0_ n1_ n2_ n3_ n4_ n5_; clear ho hb hg hat) | ((with_reducible refine gate_callee (f := 48) rfl ?_); refine goesL_ (some 60) rfl rfl Try.func48 (by kernel_rfl) rfl #[.pointer (some ⟨g, 0, none⟩), .int .i64 3] rfl qq2 ?_; (with_reducible refine (spec_l6Rd_pick.calls kj5 g s0_0 x1001_5 3 t145 t146 w0 _ ?side1 ?side2 A19.out).mono ?_); (case side1 => exact qq6 HI0.out); (case side2 => exact qq5 HB.out HI0.out); rintro e w26 ⟨rfl, hi, hb, hk⟩; refine ⟨_, rfl, ?_⟩; have n0_ := Aside0.mk (Kd.R_mono (Kd.R_keep (IsS81.apart (show IsS81 w0 _ g s0_0 x1001_5 from by repeat (first | (with_reducible first | exact HI0.out | apply IsS81.alloc | apply IsS81.drewN | apply IsS81.drew | apply IsS81.set_1) | exact HI0.out)) (qq4 HO_7.out) (by decide)) hk (fun _ h => h.2)) (fun _ h => h.1)); have n1_ := Aside0.mk (Kd.R_mono (Kd.R_keep (IsS81.apart (show IsS81 w0 _ g s0_0 x1001_5 from by repeat (first | (with_reducible first | exact HI0.out | apply IsS81.alloc | apply IsS81.drewN | apply IsS81.drew | apply IsS81.set_1) | exact HI0.out)) (qq4 HO144.out) (by decide)) hk (fun _ h => h.2)) (fun _ h => h.1)); have n2_ := Aside0.mk (KeepBut.trans qq3 hk (.inl rfl)); have n3_ := Aside0.mk (hb); have n4_ := Aside0.mk (hi); clear HO_7; clear HO144; clear HK; clear HB; clear HI0; have HO_7 := n0_; have HO144 := n1_; have HK := n2_; have HB := n3_; have HI0 := n4_; clear n0_ n1_ n2_ n3_ n4_; (try clear hb); (try clear hb2); (try clear hk); (try clear hi)))
              obtain ⟨WW, hWW, hR9⟩ : ∃ WW : World, WW = _ ∧ Kd.R k32 32 WW w.heap.size (fun _ => True) _ y142 := ⟨_, rfl, Kd.R_mono (ok' := fun _ => True) HO144.out (fun _ _ => trivial)⟩
              subst hWW
              obtain ⟨gq, cq, eq_, _, _, _⟩ := Kd.R_form hR9 (by omega)
              (first | subst eq_ | (injection eq_ with ea_ en_ ec_; (first | subst ea_ | (injection ea_ with ea_; subst ea_)); subst ec_; clear en_))
              have hQ9 := Kd.Q_of_R hR9
              have hc9 := (Kd.R_reads' hR9).2.1
              have hd9 := Kd.Q_drop (k := 1) hQ9 (by omega)
              obtain ⟨vc, hvc⟩ : ∃ vc, Value.slice (if cq = 1 then (some ⟨gq, 0, none⟩ : Option Addr) else (some ⟨gq, 0, none⟩ : Option Addr).map (·.add (1 * 2))) (y142.length - 1) (cq - 1) = vc := ⟨_, rfl⟩
              replace hd9 : Kd.Q k32 32 WW w.heap.size (fun _ => True) vc (y142.drop 1) := by rw [← hvc]; exact hd9
              obtain ⟨i9, hi9, _, hsz9, _⟩ := info_parts info32
              have hcut9 : ∀ W : World, (Instr.slice 23 (.slice (some ⟨gq, 0, none⟩) y142.length cq) (some (.int .i64 1)) none none).run Try.prog W = .ok vc W := fun W => by rw [← hvc]; exact cut_from (P := Try.prog) 23 32 .i64 Try.underlying23 hi9 2 hsz9 (some ⟨gq, 0, none⟩) y142.length cq 1 (by decide) (by omega) W
              obtain ⟨ad9, ead9, hx9, hy9⟩ := at_T32 (Kd.R_reads' hR9).2.2 0 (by decide) (by omega)
              cases ead9
              have hx9' : WW.cell? ⟨gq, 0, none⟩ = some (.int .i64 (rd_T32 y142 0).f0) := by simpa [Addr.add] using hx9
              have hy9' : WW.cell? ⟨gq, 1, none⟩ = some (.int .i64 (rd_T32 y142 0).f1) := by simpa [Addr.add] using hy9
              have hbs9 := HK.out.1
              have HQ9 := Aside0.mk hd9
              obtain ⟨p9, hp9⟩ : ∃ p, rd_T32 y142 0 = p := ⟨_, rfl⟩
              rw [hp9] at hx9' hy9'
              obtain ⟨y9, hy9_⟩ : ∃ y_, y142.drop 1 = y_ := ⟨_, rfl⟩
              have hyl9 : y9.length ≤ 100 := by rw [← hy9_, List.length_drop]; omega
              rw [hy9_] at HQ9
              clear hR9 hQ9 hd9 hvc hx9 hy9
              refine wpIn_wide (n := 0) |>.1 ?_
              have HF := Drawn.wide_plain Try.prog
              refine Drawn.act_name fun A0 hA0 => ?_
              obtain ⟨VS, hVS⟩ : ∃ VS : Value → Value → List (Option Tmp × Value), (fun u u' => [(some 62, .slice (some ⟨gq, 0, none⟩) y142.length cq), (some 63, vc), (some 64, .slice (some ⟨gq, 0, none⟩) y142.length cq), (some 65, .pointer (some ⟨gq, 0, none⟩)), (some 66, .agg #[.int .i64 p9.f0, .int .i64 p9.f1]), (some 67, .slice (some ⟨WW.heap.size, 0, none⟩) 1 1), (some 68, u), (some 2, u')]) = VS := ⟨_, rfl⟩
              have HN : ∀ u u', ((VS u u').filterMap (·.1)).Nodup := fun u u' => by rw [← hVS]; exact (show List.Nodup [(62 : Tmp), (63 : Tmp), (64 : Tmp), (65 : Tmp), (66 : Tmp), (67 : Tmp), (68 : Tmp), (2 : Tmp)] by decide)
              have E7 : ∀ (u u' : Value) (L : List Bool), (Drawn.fill (VS u u') L A0).tmps[7]?.getD undef = .slice (some ⟨gq, 0, none⟩) y142.length cq := fun u u' L => Drawn.fill_old _ _ _ qq72 (by rw [← hA0]; rfl)
              have E62 : ∀ (u u' : Value) (L : List Bool), L[0]? = some true → (Drawn.fill (VS u u') L A0).tmps[62]?.getD undef = .slice (some ⟨gq, 0, none⟩) y142.length cq := fun u u' L h => Drawn.fill_at (HN u u') (j := 0) (by rw [← hVS]; rfl) h (by rw [← hA0]; simp)
              have E63 : ∀ (u u' : Value) (L : List Bool), L[1]? = some true → (Drawn.fill (VS u u') L A0).tmps[63]?.getD undef = vc := fun u u' L h => Drawn.fill_at (HN u u') (j := 1) (by rw [← hVS]; rfl) h (by rw [← hA0]; simp)
              have E64 : ∀ (u u' : Value) (L : List Bool), L[2]? = some true → (Drawn.fill (VS u u') L A0).tmps[64]?.getD undef = .slice (some ⟨gq, 0, none⟩) y142.length cq := fun u u' L h => Drawn.fill_at (HN u u') (j := 2) (by rw [← hVS]; rfl) h (by rw [← hA0]; simp)
              have E65 : ∀ (u u' : Value) (L : List Bool), L[3]? = some true → (Drawn.fill (VS u u') L A0).tmps[65]?.getD undef = .pointer (some ⟨gq, 0, none⟩) := fun u u' L h => Drawn.fill_at (HN u u') (j := 3) (by rw [← hVS]; rfl) h (by rw [← hA0]; simp)
              have E66 : ∀ (u u' : Value) (L : List Bool), L[4]? = some true → (Drawn.fill (VS u u') L A0).tmps[66]?.getD undef = .agg #[.int .i64 p9.f0, .int .i64 p9.f1] := fun u u' L h => Drawn.fill_at (HN u u') (j := 4) (by rw [← hVS]; rfl) h (by rw [← hA0]; simp)
              have E67 : ∀ (u u' : Value) (L : List Bool), L[5]? = some true → (Drawn.fill (VS u u') L A0).tmps[67]?.getD undef = .slice (some ⟨WW.heap.size, 0, none⟩) 1 1 := fun u u' L h => Drawn.fill_at (HN u u') (j := 5) (by rw [← hVS]; rfl) h (by rw [← hA0]; simp)
              have E68 : ∀ (u u' : Value) (L : List Bool), L[6]? = some true → (Drawn.fill (VS u u') L A0).tmps[68]?.getD undef = u := fun u u' L h => Drawn.fill_at (HN u u') (j := 6) (by rw [← hVS]; rfl) h (by rw [← hA0]; simp)
              obtain ⟨V, hV⟩ : ∃ V : List Bool → List (Option Tmp × Value) → World → Prop, (fun L vs w' => ∃ u u', vs = VS u u' ∧ (L[7]? = some true → u' = u) ∧ (L[6]? = some true → Kd.Q k32 32 w' w.heap.size (fun _ => True) u (y9 ++ [p9]) ∧ Below w.heap.size WW w' ∧ WW.grownBy w' vc.ownBlock) ∧ (L[6]? = some false → L[5]? = some true → w' = WW.drew.alloc (.cells #[.int .i64 p9.f0, .int .i64 p9.f1] 32)) ∧ (L[5]? = some false → w' = WW.drew)) = V := ⟨_, rfl⟩
              have keep : ∀ (L : List Bool) (u u' : Value) (w' : World) (i : Nat), i < 5 → V L (VS u u') w' → V (L.set i true) (VS u u') w' := by
                intro L u u' w' i hi h
                rw [← hV] at h ⊢
                obtain ⟨u1, u2, h1, h2⟩ := h
                refine ⟨u1, u2, h1, ?_⟩
                rw [List.getElem?_set_ne (by omega), List.getElem?_set_ne (by omega), List.getElem?_set_ne (by omega)]
                exact h2
              refine Drawn.drawn_any (by kernel_rfl) (Drawn.early_spec (by kernel_rfl)) (show List.Nodup [(62 : Tmp), (63 : Tmp), (64 : Tmp), (65 : Tmp), (66 : Tmp), (67 : Tmp), (68 : Tmp), (2 : Tmp)] by decide) V (fun L vs w' h => by rw [← hV] at h; obtain ⟨u, u', rfl, _⟩ := h; rw [← hVS]; rfl) (VS undef undef) qq75 ?_ ?_
              · intro i o vs L w' ho hl hli hpre hcl hVL K hK
                have hVL' := hVL
                rw [← hV] at hVL'
                obtain ⟨u, u', rfl, hu7, hu6, hu56, hu5⟩ := hVL'
                have hii : i = 0 ∨ i = 1 ∨ i = 2 ∨ i = 3 ∨ i = 4 ∨ i = 5 ∨ i = 6 ∨ i = 7 := by have hq := (Array.getElem?_eq_some_iff.1 ho).1; simp at hq; omega
                have dn : ∀ j, j < 8 → L[j]? ≠ some true → L[j]? = some false := fun j hj h => by rw [List.getElem?_eq_getElem (by rw [hl]; exact hj)] at h ⊢; cases hc : L[j]'(by rw [hl]; exact hj) <;> simp_all
                rcases hii with rfl | rfl | rfl | rfl | rfl | rfl | rfl | rfl
                · obtain rfl := Option.some.inj ho
                  have e7 := E7 u u' L
                  refine Drawn.st_val HF rfl (by simp) rfl (v := .slice (some ⟨gq, 0, none⟩) y142.length cq) (w' := w') ?_ (hK _ w' qq82)
                  generalize Drawn.fill (VS u u') L A0 = A at e7 ⊢
                  simp [execOp, go_sem, e7]
                · obtain rfl := Option.some.inj ho
                  have e62 := E62 u u' L (hpre ⟨0, .data⟩ (by simp) rfl)
                  refine Drawn.st_val HF rfl (by simp) rfl (v := vc) (w' := w') ?_ (hK _ w' qq83)
                  generalize Drawn.fill (VS u u') L A0 = A at e62 ⊢
                  have s62 := (Drawn.eval_tmp A 62).trans e62
                  change (execOp A.eval { dst := some 63, op := Op.slice 23 (Operand.tmp 62) (some (Operand.const (Value.int IntKind.i64 1))) none none, type := 23, pos := "l92_draw.go:128", after := #[{ on := 0, ground := Ground.data }], guard := none }).run Try.prog w' = _
                  unfold execOp
                  simp only [Option.map_some, Option.map_none, s62, show A.eval (.const (.int .i64 1)) = .int .i64 1 from rfl, Sem.run_bind, Sem.run_pure]
                  rw [show (Instr.sliceAt 23 (.slice (some ⟨gq, 0, none⟩) y142.length cq) (some (.int .i64 1)) none none).run Try.prog w' = .ok vc w' from hcut9 w']
                  rfl
                · obtain rfl := Option.some.inj ho
                  have e7 := E7 u u' L
                  refine Drawn.st_val HF rfl (by simp) rfl (v := .slice (some ⟨gq, 0, none⟩) y142.length cq) (w' := w') ?_ (hK _ w' qq84)
                  generalize Drawn.fill (VS u u') L A0 = A at e7 ⊢
                  simp [execOp, go_sem, e7]
                · obtain rfl := Option.some.inj ho
                  have e64 := E64 u u' L (hpre ⟨2, .data⟩ (by simp) rfl)
                  refine Drawn.st_val HF rfl (by simp) rfl (v := .pointer (some ⟨gq, 0, none⟩)) (w' := w') ?_ (hK _ w' qq85)
                  have hpos : 0 < y142.length := by omega
                  generalize Drawn.fill (VS u u') L A0 = A at e64 ⊢
                  simp [execOp, go_sem, e64, hpos, Addr.add]
                · obtain rfl := Option.some.inj ho
                  have e65 := E65 u u' L (hpre ⟨3, .data⟩ (by simp) rfl)
                  have n5 := dn 5 (by decide) (fun h5 => by have h4 := hcl 5 _ rfl h5 ⟨4, .data⟩ (by simp) rfl; rw [hli] at h4; cases h4)
                  obtain rfl := hu5 n5
                  have c1 : WW.drew.cell? ⟨gq, 0, none⟩ = _ := hx9'
                  have c2 : WW.drew.cell? ⟨gq, 1, none⟩ = _ := hy9'
                  refine Drawn.st_val HF rfl (by simp) rfl (v := .agg #[.int .i64 p9.f0, .int .i64 p9.f1]) (w' := WW.drew) ?_ (hK _ WW.drew qq80)
                  generalize Drawn.fill (VS u u') L A0 = A at e65 ⊢
                  simp [execOp, go_sem, e65, c1, c2]
                · obtain rfl := Option.some.inj ho
                  have e66 := E66 u u' L (hpre ⟨4, .data⟩ (by simp) rfl)
                  have n6 := dn 6 (by decide) (fun h6 => by have h5 := hcl 6 _ rfl h6 ⟨5, .data⟩ (by simp) rfl; rw [hli] at h5; cases h5)
                  obtain rfl := hu5 hli
                  refine Drawn.st_val HF rfl (by simp) rfl (v := .slice (some ⟨WW.heap.size, 0, none⟩) 1 1) (w' := WW.drew.alloc (.cells #[.int .i64 p9.f0, .int .i64 p9.f1] 32)) ?_ (hK _ _ ?_)
                  · generalize Drawn.fill (VS u u') L A0 = A at e66 ⊢
                    simp [execOp, go_sem, e66]
                  · rw [← hV]
                    refine ⟨u, u', by rw [← hVS]; rfl, fun h => hu7 qq76, fun h => ?_, fun _ _ => rfl, fun h => ?_⟩
                    · rw [List.getElem?_set_ne (by decide), n6] at h; cases h
                    · rw [List.getElem?_set_self (by rw [hl]; decide)] at h; cases h
                · obtain rfl := Option.some.inj ho
                  have e63 := E63 u u' L (hpre ⟨1, .data⟩ (by simp) rfl)
                  have h5t := hpre ⟨5, .data⟩ (by simp) rfl
                  have e67 := E67 u u' L h5t
                  obtain rfl := hu56 hli h5t
                  obtain ⟨v1, w1, hr9, q1, q2, q3, _⟩ := Kd.Q_run (P := Try.prog) (W := WW.drew) k32 (w0 := WW) w.heap.size 23 23 32 (.agg #[(.int .i64 0), (.int .i64 0)]) 16 Try.underlying23 info32 rfl (by decide) (by omega) vc y9 p9 _ (fun _ => True) (fun _ => False) (k32_mkM _ _ _ p9) (fun _ h => h.elim) (fun _ _ => trivial) HQ9.out (below_drew1 (Below.refl _ _)) hbs9 (by omega)
                  refine Drawn.st_val HF rfl (by simp) rfl (v := v1) (w' := w1) ?_ (hK _ _ ?_)
                  · generalize Drawn.fill (VS u u') L A0 = A at e63 e67 ⊢
                    have s63 := (Drawn.eval_tmp A 63).trans e63
                    have s67 := (Drawn.eval_tmp A 67).trans e67
                    change (execOp A.eval { dst := some 68, op := Op.call { callee := Callee.builtin Builtin.append, args := #[Operand.tmp 63, Operand.tmp 67], argTypes := #[23, 23] }, type := 23, pos := "l92_draw.go:128", after := #[{ on := 1, ground := Ground.data }, { on := 5, ground := Ground.data }], guard := none }).run Try.prog _ = _
                    unfold execOp
                    simp only [resolve, invoke, builtin, Sem.run_bind, Sem.run_pure, Result.andThen_ok, List.map_toArray, List.map_cons, List.map_nil, s63, s67]
                    rw [show WW.drew.heap.size = WW.heap.size from rfl] at hr9
                    rw [show (#[.int .i64 p9.f0, .int .i64 p9.f1] : Array Value) = [.int .i64 p9.f0, .int .i64 p9.f1].toArray from rfl, hr9]
                    rfl
                  · rw [← hV]
                    have n7 := dn 7 (by decide) (fun h7 => by have h6 := hcl 7 _ rfl h7 ⟨6, .data⟩ (by simp) rfl; rw [hli] at h6; cases h6)
                    refine ⟨v1, u', by rw [← hVS]; rfl, fun h => ?_, fun _ => ⟨q1, q2, World.grownBy.trans (grown_of_below (below_drew1 (Below.refl WW.heap.size WW)) _) q3⟩, fun h => ?_, fun h => ?_⟩
                    · rw [List.getElem?_set_ne (by decide), n7] at h; cases h
                    · rw [List.getElem?_set_self (by rw [hl]; decide)] at h; cases h
                    · rw [List.getElem?_set_ne (by decide), h5t] at h; cases h
                · obtain rfl := Option.some.inj ho
                  have h6t := hpre ⟨6, .data⟩ (by simp) rfl
                  have e68 := E68 u u' L h6t
                  refine Drawn.st_val HF rfl (by simp) rfl (v := u) (w' := w') ?_ (hK _ w' ?_)
                  · generalize Drawn.fill (VS u u') L A0 = A at e68 ⊢
                    simp [execOp, go_sem, e68]
                  · rw [← hV]
                    refine ⟨u, u, by rw [← hVS]; rfl, fun _ => rfl, fun _ => hu6 h6t, fun h => ?_, fun h => hu5 qq76⟩
                    rw [List.getElem?_set_ne (by decide), h6t] at h; cases h
              · intro vs w' hVL
                rw [← hV] at hVL
                obtain ⟨u, u', rfl, hu7, hu6, _, _⟩ := hVL
                obtain rfl := hu7 rfl
                obtain ⟨q1, q2, q3⟩ := hu6 rfl
                rw [← hVS, ← hA0]
                simp only [List.size_toArray, List.length_cons, List.length_nil, Nat.reduceAdd, List.replicate, Drawn.fill, if_true, Act.put, List.setIfInBounds_toArray, List.set_cons_succ, List.set_cons_zero]
                have HIf := Aside0.mk (IsS81.grown HI0.out q3 (IsS81.own_neQ HI0.out HQ9.out (by decide)))
                have HBf := Aside0.mk (below_weaken HB.out HL.out q2)
                have HKf := Aside0.mk (KeepBut.trans HK.out (KeepBut.of_grown q3 g) (Kd.Q_base2 HQ9.out))
                have HQf := Aside0.mk q1
                clear q1 q2 q3 hu6 HN keep E7 E62 E63 E64 E65 E66 E67 E68 hVS hV hA0
                go_wp2
                go_ret
                exact ⟨_, rfl, by rw [← HR1.out, hy9_, hp9]; exact HQf.out, HIf.out, HBf.out, HKf.out⟩
            · rw [if_neg c20] at H
              have c20b0 : (t145 == 0) = false := beq_eq_false_iff_ne.mpr c20
              have c20b1 : (t145 != 0) = true := bne_iff_ne.mpr c20
              simp only [Option.some.injEq, Prod.mk.injEq] at H
              obtain ⟨rfl, rfl⟩ := H
              go_wp2_with (first | ((with_reducible refine gate_dst (N := 55) rfl ?_); refine Kd.R_lit k32 _ 32 ?hg (N := 55) ?hd (xs := ([(⟨(wrap64 (t122 - 2)), (wrap64 (t124 - 2))⟩ : S32), (⟨wrap64 ((wrap64 (t122 - 2)) + 1), (wrap64 (t124 - 2))⟩ : S32)] : List (S32))) (inner := [.int .i64 (wrap64 (t122 - 2)), .int .i64 (wrap64 (t124 - 2)), .int .i64 (wrap64 ((wrap64 (t122 - 2)) + 1)), .int .i64 (wrap64 (t124 - 2))]) (ok := fun _ => True) (okp := fun _ => True) ?hr ?hp (fun _ hk => hk) trivial (Below.refl _ _) (Nat.le_refl _) (by simp) ?_; (case hd => rfl); (case hg => rfl); (case hr => exact qq21); (case hp => exact qq39); intro v136 w27 ho28 hb hg_ hnew_; clear hg_ hnew_; (first | rw [← Ny135.out] at ho28 | (simp only [Int.reduceToNat] at ho28; rw [← Ny135.out] at ho28)); have n0_ := Aside0.mk (Kd.R_elder' (qq4 HO_7.out) (Kd.R_base ho28) hb); have n1_ := Aside0.mk (Kd.R_lower (Kd.R_new' ho28 (Kd.R_lt (qq4 HO_7.out))) (keep_size (w := w) (g := g) (row := none) qq3)); have n2_ := Aside0.mk (IsS81.below (qq6 HI0.out) hb); have n3_ := Aside0.mk (KeepBut.trans qq3 (KeepBut.of_below hb g none) (.inl rfl)); have n4_ := Aside0.mk (below_step (qq5 HB.out HI0.out) hb); clear HO_7; clear HI0; clear HK; clear HB; have HO_7 := n0_; have HO137 := n1_; have HI0 := n2_; have HK := n3_; have HB := n4_; clear n0_ n1_ n2_ n3_ n4_; clear hb ho28; obtain ⟨Ao30, co30, eo30⟩ := Kd.R_slice HO_7.out; subst eo30; have q29 : (1 : Int) ≤ ((y130.length : Int) : Int) := of_decide_eq_true qq18; obtain ⟨i029, hi029, _, hsz29, _⟩ := info_parts info32; have hroom29 : y130.length ≤ co30 := (Kd.R_reads' HO_7.out).2.1; have hC29 : Kd.C k32 _ Ao30 y130.length y130 := (Kd.R_reads' HO_7.out).2.2; have hcut29 := cut_from (P := Try.prog) 23 32 .i64 Try.underlying23 hi029 2 hsz29 Ao30 y130.length co30 1 (by omega) q29; have hr29 := Kd.C_drop (m := (1 : Int).toNat) (c := co30) hC29 (by omega) hroom29; obtain ⟨A29, hA29⟩ : ∃ Az_, Az_ = (if co30 = (1 : Int).toNat then Ao30 else (Ao30 : Option Addr).map (·.add ((1 : Int).toNat * 2))) := ⟨_, rfl⟩; obtain ⟨c29, hc29⟩ : ∃ cz_, cz_ = co30 - (1 : Int).toNat := ⟨_, rfl⟩; have hy29 : y138.length = y130.length - (1 : Int).toNat := (by rw [Ny138.out, List.length_drop] <;> omega); rw [show (y130).drop (1 : Int).toNat = y138 from Ny138.out.symm] at hr29; replace hr29 : Kd.C k32 _ A29 y138.length y138 := (by rw [hA29]; exact hr29); rw [← hy29, ← hA29, ← hc29] at hcut29; have HR141 := Aside0.mk hr29; have HC141 := Aside0.mk (show y138.length ≤ c29 from by rw [hy29, hc29]; exact Nat.sub_le_sub_right hroom29 _); clear hr29 hC29 hroom29 hi029 hsz29 hc29; have KY29 := Aside0.mk hy29; have KA29 := Aside0.mk hA29; clear hy29 hA29; have KL29 := Aside0.mk (show 1 ≤ y130.length from by omega); replace q29 := eq_true q29) | ((with_reducible refine gate_builtin (b := .append) (xs := #[.tmp 55, .tmp 57]) rfl ?_); at_builtin; refine Kd.R_append_rows k32 w.heap.size rfl (.tmp 55) (.tmp 57) 23 32 (.agg #[(.int .i64 0), (.int .i64 0)]) 16 rfl Try.underlying23 info32 rfl (by decide) (by omega) v136 y135 y138 _ _ _ (fun k_ => some k_ ≠ (.slice Ao30 y130.length co30 : Value).ownBlock) (fun _ => False) rfl rfl ?aO ?aR (fun _ _ h => h) (fun _ h => h.elim) ?aF (Below.refl _ _) ?aS ?aL ?_; (case aR => exact qq54); (case aF => exact (fun k_ hk => Kd.fresh' (Kd.R_lt (qq4 HO_7.out)) k_ hk)); (case aO => exact (qq35 HO137.out)); (case aS => exact qq70); (case aL => have := LMc18.out; omega); intro v143 w31 ho hb hg hat; rw [← Ny142.out] at ho; have n0_ := Aside0.mk (Kd.R_after (ok := (fun _ => True)) (qq4 HO_7.out) hg hat); have n1_ := Aside0.mk (IsS81.grown (qq6 HI0.out) hg (IsS81.own_ne HI0.out HO137.out (by decide))); have n2_ := Aside0.mk (below_weaken (qq5 HB.out HI0.out) HL.out hb); have n3_ := Aside0.mk (KeepBut.trans qq3 (KeepBut.of_grown hg g) (Kd.R_base2 HO137.out)); have n4_ := Aside0.mk ((show Kd.C k32 w31 A29 y138.length y138 from by rw [Ny138.out, KA29.out]; exact Kd.C_drop (m := 1) (c := co30) ((Kd.R_reads' (Kd.R_after (ok := (fun _ => True)) (qq4 HO_7.out) hg hat)).2.2) KL29.out ((Kd.R_reads' (Kd.R_after (ok := (fun _ => True)) (qq4 HO_7.out) hg hat)).2.1))); have n5_ := Aside0.mk (ho); clear HO_7; clear HI0; clear HB; clear HK; clear HR141; clear HO137; have HO_7 := n0_; have HI0 := n1_; have HB := n2_; have HK := n3_; have HR141 := n4_; have HO144 := n5_; clear n0_ n1_ n2_ n3_ n4_ n5_; clear ho hb hg hat) | ((with_reducible refine gate_callee (f := 48) rfl ?_); refine goesL_ (some 60) rfl rfl Try.func48 (by kernel_rfl) rfl #[.pointer (some ⟨g, 0, none⟩), .int .i64 3] rfl qq2 ?_; (with_reducible refine (spec_l6Rd_pick.calls kj5 g s0_0 x1001_5 3 t145 t146 w0 _ ?side1 ?side2 A19.out).mono ?_); (case side1 => exact qq6 HI0.out); (case side2 => exact qq5 HB.out HI0.out); rintro e w32 ⟨rfl, hi, hb, hk⟩; refine ⟨_, rfl, ?_⟩; have n0_ := Aside0.mk (Kd.R_mono (Kd.R_keep (IsS81.apart (show IsS81 w0 _ g s0_0 x1001_5 from by repeat (first | (with_reducible first | exact HI0.out | apply IsS81.alloc | apply IsS81.drewN | apply IsS81.drew | apply IsS81.set_1) | exact HI0.out)) (qq4 HO_7.out) (by decide)) hk (fun _ h => h.2)) (fun _ h => h.1)); have n1_ := Aside0.mk (Kd.R_mono (Kd.R_keep (IsS81.apart (show IsS81 w0 _ g s0_0 x1001_5 from by repeat (first | (with_reducible first | exact HI0.out | apply IsS81.alloc | apply IsS81.drewN | apply IsS81.drew | apply IsS81.set_1) | exact HI0.out)) (qq4 HO144.out) (by decide)) hk (fun _ h => h.2)) (fun _ h => h.1)); have n2_ := Aside0.mk (KeepBut.trans qq3 hk (.inl rfl)); have n3_ := Aside0.mk (hb); have n4_ := Aside0.mk (hi); clear HO_7; clear HO144; clear HK; clear HB; clear HI0; have HO_7 := n0_; have HO144 := n1_; have HK := n2_; have HB := n3_; have HI0 := n4_; clear n0_ n1_ n2_ n3_ n4_; (try clear hb); (try clear hb2); (try clear hk); (try clear hi)))
              go_ret
              exact ⟨_, qq11, Kd.Q_of_R (qq63 HO144.out), qq6 HI0.out, qq5 HB.out HI0.out, qq3⟩
          · rw [if_neg c18] at H
            exact absurd H (by simp)
        · rw [if_neg c17] at H
          exact absurd H (by simp)
      · replace c16 := Bool.eq_false_iff.mpr c16
        subst c16
        have H1 : ((spec_l6Rd_pick.f kj5 s0_0 x1001_5 3).bind fun bt147 => (if bt147.1 = 0 then (if 1 ≤ y130.length ∧ y130.length ≤ 100 then (some (y130.drop 1 ++ [rd_T32 y130 0], bt147.2)) else none) else (some (y130, bt147.2)))) = some (r1, r2) := by rw [if_neg (show ¬ (false = true) by decide)] at H; exact H
        clear H
        have H := H1
        clear H1
        replace H := Option.bind_eq_some_iff.mp H
        obtain ⟨⟨t147, t148⟩, A330, H⟩ := H
        replace H : (if t147 = 0 then (if 1 ≤ y130.length ∧ y130.length ≤ 100 then (some (y130.drop 1 ++ [rd_T32 y130 0], t148)) else none) else (some (y130, t148))) = some (r1, r2) := H
        have A33 := Aside0.mk A330
        clear A330
        by_cases c34 : t147 = 0
        · rw [if_pos c34] at H
          have c34b0 : (t147 == 0) = true := beq_iff_eq.mpr c34
          have c34b1 : (t147 != 0) = false := bne_eq_false_iff_eq.mpr c34
          clear c34
          by_cases hl9 : 1 ≤ y130.length ∧ y130.length ≤ 100
          case neg => rw [if_neg hl9] at H; exact absurd H (by simp)
          rw [if_pos hl9] at H
          simp only [Option.some.injEq, Prod.mk.injEq] at H
          obtain ⟨hr1, rfl⟩ := H; have HR1 := Aside0.mk hr1; clear hr1
          go_wp2_with (first | ((with_reducible refine gate_callee (f := 48) rfl ?_); refine goesL_ (some 60) rfl rfl Try.func48 (by kernel_rfl) rfl #[.pointer (some ⟨g, 0, none⟩), .int .i64 3] rfl qq2 ?_; (with_reducible refine (spec_l6Rd_pick.calls kj5 g s0_0 x1001_5 3 t147 t148 w0 _ ?side1 ?side2 A33.out).mono ?_); (case side1 => exact qq6 HI0.out); (case side2 => exact qq5 HB.out HI0.out); rintro e w35 ⟨rfl, hi, hb, hk⟩; refine ⟨_, rfl, ?_⟩; have n0_ := Aside0.mk (Kd.R_mono (Kd.R_keep (IsS81.apart (show IsS81 w0 _ g s0_0 x1001_5 from by repeat (first | (with_reducible first | exact HI0.out | apply IsS81.alloc | apply IsS81.drewN | apply IsS81.drew | apply IsS81.set_1) | exact HI0.out)) (qq4 HO_7.out) (by decide)) hk (fun _ h => h.2)) (fun _ h => h.1)); have n1_ := Aside0.mk (KeepBut.trans qq3 hk (.inl rfl)); have n2_ := Aside0.mk (hb); have n3_ := Aside0.mk (hi); clear HO_7; clear HK; clear HB; clear HI0; have HO_7 := n0_; have HK := n1_; have HB := n2_; have HI0 := n3_; clear n0_ n1_ n2_ n3_; (try clear hb); (try clear hb2); (try clear hk); (try clear hi)))
          obtain ⟨WW, hWW, hR9⟩ : ∃ WW : World, WW = _ ∧ Kd.R k32 32 WW w.heap.size (fun _ => True) _ y130 := ⟨_, rfl, Kd.R_mono (ok' := fun _ => True) HO_7.out (fun _ _ => trivial)⟩
          subst hWW
          obtain ⟨gq, cq, eq_, _, _, _⟩ := Kd.R_form hR9 (by omega)
          (first | subst eq_ | (injection eq_ with ea_ en_ ec_; (first | subst ea_ | (injection ea_ with ea_; subst ea_)); subst ec_; clear en_))
          have hQ9 := Kd.Q_of_R hR9
          have hc9 := (Kd.R_reads' hR9).2.1
          have hd9 := Kd.Q_drop (k := 1) hQ9 (by omega)
          obtain ⟨vc, hvc⟩ : ∃ vc, Value.slice (if cq = 1 then (some ⟨gq, 0, none⟩ : Option Addr) else (some ⟨gq, 0, none⟩ : Option Addr).map (·.add (1 * 2))) (y130.length - 1) (cq - 1) = vc := ⟨_, rfl⟩
          replace hd9 : Kd.Q k32 32 WW w.heap.size (fun _ => True) vc (y130.drop 1) := by rw [← hvc]; exact hd9
          obtain ⟨i9, hi9, _, hsz9, _⟩ := info_parts info32
          have hcut9 : ∀ W : World, (Instr.slice 23 (.slice (some ⟨gq, 0, none⟩) y130.length cq) (some (.int .i64 1)) none none).run Try.prog W = .ok vc W := fun W => by rw [← hvc]; exact cut_from (P := Try.prog) 23 32 .i64 Try.underlying23 hi9 2 hsz9 (some ⟨gq, 0, none⟩) y130.length cq 1 (by decide) (by omega) W
          obtain ⟨ad9, ead9, hx9, hy9⟩ := at_T32 (Kd.R_reads' hR9).2.2 0 (by decide) (by omega)
          cases ead9
          have hx9' : WW.cell? ⟨gq, 0, none⟩ = some (.int .i64 (rd_T32 y130 0).f0) := by simpa [Addr.add] using hx9
          have hy9' : WW.cell? ⟨gq, 1, none⟩ = some (.int .i64 (rd_T32 y130 0).f1) := by simpa [Addr.add] using hy9
          have hbs9 := HK.out.1
          have HQ9 := Aside0.mk hd9
          obtain ⟨p9, hp9⟩ : ∃ p, rd_T32 y130 0 = p := ⟨_, rfl⟩
          rw [hp9] at hx9' hy9'
          obtain ⟨y9, hy9_⟩ : ∃ y_, y130.drop 1 = y_ := ⟨_, rfl⟩
          have hyl9 : y9.length ≤ 100 := by rw [← hy9_, List.length_drop]; omega
          rw [hy9_] at HQ9
          clear hR9 hQ9 hd9 hvc hx9 hy9
          refine wpIn_wide (n := 0) |>.1 ?_
          have HF := Drawn.wide_plain Try.prog
          refine Drawn.act_name fun A0 hA0 => ?_
          obtain ⟨VS, hVS⟩ : ∃ VS : Value → Value → List (Option Tmp × Value), (fun u u' => [(some 62, .slice (some ⟨gq, 0, none⟩) y130.length cq), (some 63, vc), (some 64, .slice (some ⟨gq, 0, none⟩) y130.length cq), (some 65, .pointer (some ⟨gq, 0, none⟩)), (some 66, .agg #[.int .i64 p9.f0, .int .i64 p9.f1]), (some 67, .slice (some ⟨WW.heap.size, 0, none⟩) 1 1), (some 68, u), (some 2, u')]) = VS := ⟨_, rfl⟩
          have HN : ∀ u u', ((VS u u').filterMap (·.1)).Nodup := fun u u' => by rw [← hVS]; exact (show List.Nodup [(62 : Tmp), (63 : Tmp), (64 : Tmp), (65 : Tmp), (66 : Tmp), (67 : Tmp), (68 : Tmp), (2 : Tmp)] by decide)
          have E7 : ∀ (u u' : Value) (L : List Bool), (Drawn.fill (VS u u') L A0).tmps[7]?.getD undef = .slice (some ⟨gq, 0, none⟩) y130.length cq := fun u u' L => Drawn.fill_old _ _ _ qq72 (by rw [← hA0]; rfl)
          have E62 : ∀ (u u' : Value) (L : List Bool), L[0]? = some true → (Drawn.fill (VS u u') L A0).tmps[62]?.getD undef = .slice (some ⟨gq, 0, none⟩) y130.length cq := fun u u' L h => Drawn.fill_at (HN u u') (j := 0) (by rw [← hVS]; rfl) h (by rw [← hA0]; simp)
          have E63 : ∀ (u u' : Value) (L : List Bool), L[1]? = some true → (Drawn.fill (VS u u') L A0).tmps[63]?.getD undef = vc := fun u u' L h => Drawn.fill_at (HN u u') (j := 1) (by rw [← hVS]; rfl) h (by rw [← hA0]; simp)
          have E64 : ∀ (u u' : Value) (L : List Bool), L[2]? = some true → (Drawn.fill (VS u u') L A0).tmps[64]?.getD undef = .slice (some ⟨gq, 0, none⟩) y130.length cq := fun u u' L h => Drawn.fill_at (HN u u') (j := 2) (by rw [← hVS]; rfl) h (by rw [← hA0]; simp)
          have E65 : ∀ (u u' : Value) (L : List Bool), L[3]? = some true → (Drawn.fill (VS u u') L A0).tmps[65]?.getD undef = .pointer (some ⟨gq, 0, none⟩) := fun u u' L h => Drawn.fill_at (HN u u') (j := 3) (by rw [← hVS]; rfl) h (by rw [← hA0]; simp)
          have E66 : ∀ (u u' : Value) (L : List Bool), L[4]? = some true → (Drawn.fill (VS u u') L A0).tmps[66]?.getD undef = .agg #[.int .i64 p9.f0, .int .i64 p9.f1] := fun u u' L h => Drawn.fill_at (HN u u') (j := 4) (by rw [← hVS]; rfl) h (by rw [← hA0]; simp)
          have E67 : ∀ (u u' : Value) (L : List Bool), L[5]? = some true → (Drawn.fill (VS u u') L A0).tmps[67]?.getD undef = .slice (some ⟨WW.heap.size, 0, none⟩) 1 1 := fun u u' L h => Drawn.fill_at (HN u u') (j := 5) (by rw [← hVS]; rfl) h (by rw [← hA0]; simp)
          have E68 : ∀ (u u' : Value) (L : List Bool), L[6]? = some true → (Drawn.fill (VS u u') L A0).tmps[68]?.getD undef = u := fun u u' L h => Drawn.fill_at (HN u u') (j := 6) (by rw [← hVS]; rfl) h (by rw [← hA0]; simp)
          obtain ⟨V, hV⟩ : ∃ V : List Bool → List (Option Tmp × Value) → World → Prop, (fun L vs w' => ∃ u u', vs = VS u u' ∧ (L[7]? = some true → u' = u) ∧ (L[6]? = some true → Kd.Q k32 32 w' w.heap.size (fun _ => True) u (y9 ++ [p9]) ∧ Below w.heap.size WW w' ∧ WW.grownBy w' vc.ownBlock) ∧ (L[6]? = some false → L[5]? = some true → w' = WW.drew.alloc (.cells #[.int .i64 p9.f0, .int .i64 p9.f1] 32)) ∧ (L[5]? = some false → w' = WW.drew)) = V := ⟨_, rfl⟩
          have keep : ∀ (L : List Bool) (u u' : Value) (w' : World) (i : Nat), i < 5 → V L (VS u u') w' → V (L.set i true) (VS u u') w' := by
            intro L u u' w' i hi h
            rw [← hV] at h ⊢
            obtain ⟨u1, u2, h1, h2⟩ := h
            refine ⟨u1, u2, h1, ?_⟩
            rw [List.getElem?_set_ne (by omega), List.getElem?_set_ne (by omega), List.getElem?_set_ne (by omega)]
            exact h2
          refine Drawn.drawn_any (by kernel_rfl) (Drawn.early_spec (by kernel_rfl)) (show List.Nodup [(62 : Tmp), (63 : Tmp), (64 : Tmp), (65 : Tmp), (66 : Tmp), (67 : Tmp), (68 : Tmp), (2 : Tmp)] by decide) V (fun L vs w' h => by rw [← hV] at h; obtain ⟨u, u', rfl, _⟩ := h; rw [← hVS]; rfl) (VS undef undef) qq75 ?_ ?_
          · intro i o vs L w' ho hl hli hpre hcl hVL K hK
            have hVL' := hVL
            rw [← hV] at hVL'
            obtain ⟨u, u', rfl, hu7, hu6, hu56, hu5⟩ := hVL'
            have hii : i = 0 ∨ i = 1 ∨ i = 2 ∨ i = 3 ∨ i = 4 ∨ i = 5 ∨ i = 6 ∨ i = 7 := by have hq := (Array.getElem?_eq_some_iff.1 ho).1; simp at hq; omega
            have dn : ∀ j, j < 8 → L[j]? ≠ some true → L[j]? = some false := fun j hj h => by rw [List.getElem?_eq_getElem (by rw [hl]; exact hj)] at h ⊢; cases hc : L[j]'(by rw [hl]; exact hj) <;> simp_all
            rcases hii with rfl | rfl | rfl | rfl | rfl | rfl | rfl | rfl
            · obtain rfl := Option.some.inj ho
              have e7 := E7 u u' L
              refine Drawn.st_val HF rfl (by simp) rfl (v := .slice (some ⟨gq, 0, none⟩) y130.length cq) (w' := w') ?_ (hK _ w' qq82)
              generalize Drawn.fill (VS u u') L A0 = A at e7 ⊢
              simp [execOp, go_sem, e7]
            · obtain rfl := Option.some.inj ho
              have e62 := E62 u u' L (hpre ⟨0, .data⟩ (by simp) rfl)
              refine Drawn.st_val HF rfl (by simp) rfl (v := vc) (w' := w') ?_ (hK _ w' qq83)
              generalize Drawn.fill (VS u u') L A0 = A at e62 ⊢
              have s62 := (Drawn.eval_tmp A 62).trans e62
              change (execOp A.eval { dst := some 63, op := Op.slice 23 (Operand.tmp 62) (some (Operand.const (Value.int IntKind.i64 1))) none none, type := 23, pos := "l92_draw.go:128", after := #[{ on := 0, ground := Ground.data }], guard := none }).run Try.prog w' = _
              unfold execOp
              simp only [Option.map_some, Option.map_none, s62, show A.eval (.const (.int .i64 1)) = .int .i64 1 from rfl, Sem.run_bind, Sem.run_pure]
              rw [show (Instr.sliceAt 23 (.slice (some ⟨gq, 0, none⟩) y130.length cq) (some (.int .i64 1)) none none).run Try.prog w' = .ok vc w' from hcut9 w']
              rfl
            · obtain rfl := Option.some.inj ho
              have e7 := E7 u u' L
              refine Drawn.st_val HF rfl (by simp) rfl (v := .slice (some ⟨gq, 0, none⟩) y130.length cq) (w' := w') ?_ (hK _ w' qq84)
              generalize Drawn.fill (VS u u') L A0 = A at e7 ⊢
              simp [execOp, go_sem, e7]
            · obtain rfl := Option.some.inj ho
              have e64 := E64 u u' L (hpre ⟨2, .data⟩ (by simp) rfl)
              refine Drawn.st_val HF rfl (by simp) rfl (v := .pointer (some ⟨gq, 0, none⟩)) (w' := w') ?_ (hK _ w' qq85)
              have hpos : 0 < y130.length := by omega
              generalize Drawn.fill (VS u u') L A0 = A at e64 ⊢
              simp [execOp, go_sem, e64, hpos, Addr.add]
            · obtain rfl := Option.some.inj ho
              have e65 := E65 u u' L (hpre ⟨3, .data⟩ (by simp) rfl)
              have n5 := dn 5 (by decide) (fun h5 => by have h4 := hcl 5 _ rfl h5 ⟨4, .data⟩ (by simp) rfl; rw [hli] at h4; cases h4)
              obtain rfl := hu5 n5
              have c1 : WW.drew.cell? ⟨gq, 0, none⟩ = _ := hx9'
              have c2 : WW.drew.cell? ⟨gq, 1, none⟩ = _ := hy9'
              refine Drawn.st_val HF rfl (by simp) rfl (v := .agg #[.int .i64 p9.f0, .int .i64 p9.f1]) (w' := WW.drew) ?_ (hK _ WW.drew qq80)
              generalize Drawn.fill (VS u u') L A0 = A at e65 ⊢
              simp [execOp, go_sem, e65, c1, c2]
            · obtain rfl := Option.some.inj ho
              have e66 := E66 u u' L (hpre ⟨4, .data⟩ (by simp) rfl)
              have n6 := dn 6 (by decide) (fun h6 => by have h5 := hcl 6 _ rfl h6 ⟨5, .data⟩ (by simp) rfl; rw [hli] at h5; cases h5)
              obtain rfl := hu5 hli
              refine Drawn.st_val HF rfl (by simp) rfl (v := .slice (some ⟨WW.heap.size, 0, none⟩) 1 1) (w' := WW.drew.alloc (.cells #[.int .i64 p9.f0, .int .i64 p9.f1] 32)) ?_ (hK _ _ ?_)
              · generalize Drawn.fill (VS u u') L A0 = A at e66 ⊢
                simp [execOp, go_sem, e66]
              · rw [← hV]
                refine ⟨u, u', by rw [← hVS]; rfl, fun h => hu7 qq76, fun h => ?_, fun _ _ => rfl, fun h => ?_⟩
                · rw [List.getElem?_set_ne (by decide), n6] at h; cases h
                · rw [List.getElem?_set_self (by rw [hl]; decide)] at h; cases h
            · obtain rfl := Option.some.inj ho
              have e63 := E63 u u' L (hpre ⟨1, .data⟩ (by simp) rfl)
              have h5t := hpre ⟨5, .data⟩ (by simp) rfl
              have e67 := E67 u u' L h5t
              obtain rfl := hu56 hli h5t
              obtain ⟨v1, w1, hr9, q1, q2, q3, _⟩ := Kd.Q_run (P := Try.prog) (W := WW.drew) k32 (w0 := WW) w.heap.size 23 23 32 (.agg #[(.int .i64 0), (.int .i64 0)]) 16 Try.underlying23 info32 rfl (by decide) (by omega) vc y9 p9 _ (fun _ => True) (fun _ => False) (k32_mkM _ _ _ p9) (fun _ h => h.elim) (fun _ _ => trivial) HQ9.out (below_drew1 (Below.refl _ _)) hbs9 (by omega)
              refine Drawn.st_val HF rfl (by simp) rfl (v := v1) (w' := w1) ?_ (hK _ _ ?_)
              · generalize Drawn.fill (VS u u') L A0 = A at e63 e67 ⊢
                have s63 := (Drawn.eval_tmp A 63).trans e63
                have s67 := (Drawn.eval_tmp A 67).trans e67
                change (execOp A.eval { dst := some 68, op := Op.call { callee := Callee.builtin Builtin.append, args := #[Operand.tmp 63, Operand.tmp 67], argTypes := #[23, 23] }, type := 23, pos := "l92_draw.go:128", after := #[{ on := 1, ground := Ground.data }, { on := 5, ground := Ground.data }], guard := none }).run Try.prog _ = _
                unfold execOp
                simp only [resolve, invoke, builtin, Sem.run_bind, Sem.run_pure, Result.andThen_ok, List.map_toArray, List.map_cons, List.map_nil, s63, s67]
                rw [show WW.drew.heap.size = WW.heap.size from rfl] at hr9
                rw [show (#[.int .i64 p9.f0, .int .i64 p9.f1] : Array Value) = [.int .i64 p9.f0, .int .i64 p9.f1].toArray from rfl, hr9]
                rfl
              · rw [← hV]
                have n7 := dn 7 (by decide) (fun h7 => by have h6 := hcl 7 _ rfl h7 ⟨6, .data⟩ (by simp) rfl; rw [hli] at h6; cases h6)
                refine ⟨v1, u', by rw [← hVS]; rfl, fun h => ?_, fun _ => ⟨q1, q2, World.grownBy.trans (grown_of_below (below_drew1 (Below.refl WW.heap.size WW)) _) q3⟩, fun h => ?_, fun h => ?_⟩
                · rw [List.getElem?_set_ne (by decide), n7] at h; cases h
                · rw [List.getElem?_set_self (by rw [hl]; decide)] at h; cases h
                · rw [List.getElem?_set_ne (by decide), h5t] at h; cases h
            · obtain rfl := Option.some.inj ho
              have h6t := hpre ⟨6, .data⟩ (by simp) rfl
              have e68 := E68 u u' L h6t
              refine Drawn.st_val HF rfl (by simp) rfl (v := u) (w' := w') ?_ (hK _ w' ?_)
              · generalize Drawn.fill (VS u u') L A0 = A at e68 ⊢
                simp [execOp, go_sem, e68]
              · rw [← hV]
                refine ⟨u, u, by rw [← hVS]; rfl, fun _ => rfl, fun _ => hu6 h6t, fun h => ?_, fun h => hu5 qq76⟩
                rw [List.getElem?_set_ne (by decide), h6t] at h; cases h
          · intro vs w' hVL
            rw [← hV] at hVL
            obtain ⟨u, u', rfl, hu7, hu6, _, _⟩ := hVL
            obtain rfl := hu7 rfl
            obtain ⟨q1, q2, q3⟩ := hu6 rfl
            rw [← hVS, ← hA0]
            simp only [List.size_toArray, List.length_cons, List.length_nil, Nat.reduceAdd, List.replicate, Drawn.fill, if_true, Act.put, List.setIfInBounds_toArray, List.set_cons_succ, List.set_cons_zero]
            have HIf := Aside0.mk (IsS81.grown HI0.out q3 (IsS81.own_neQ HI0.out HQ9.out (by decide)))
            have HBf := Aside0.mk (below_weaken HB.out HL.out q2)
            have HKf := Aside0.mk (KeepBut.trans HK.out (KeepBut.of_grown q3 g) (Kd.Q_base2 HQ9.out))
            have HQf := Aside0.mk q1
            clear q1 q2 q3 hu6 HN keep E7 E62 E63 E64 E65 E66 E67 E68 hVS hV hA0
            go_wp2
            go_ret
            exact ⟨_, rfl, by rw [← HR1.out, hy9_, hp9]; exact HQf.out, HIf.out, HBf.out, HKf.out⟩
        · rw [if_neg c34] at H
          have c34b0 : (t147 == 0) = false := beq_eq_false_iff_ne.mpr c34
          have c34b1 : (t147 != 0) = true := bne_iff_ne.mpr c34
          simp only [Option.some.injEq, Prod.mk.injEq] at H
          obtain ⟨rfl, rfl⟩ := H
          go_wp2_with (first | ((with_reducible refine gate_callee (f := 48) rfl ?_); refine goesL_ (some 60) rfl rfl Try.func48 (by kernel_rfl) rfl #[.pointer (some ⟨g, 0, none⟩), .int .i64 3] rfl qq2 ?_; (with_reducible refine (spec_l6Rd_pick.calls kj5 g s0_0 x1001_5 3 t147 t148 w0 _ ?side1 ?side2 A33.out).mono ?_); (case side1 => exact qq6 HI0.out); (case side2 => exact qq5 HB.out HI0.out); rintro e w36 ⟨rfl, hi, hb, hk⟩; refine ⟨_, rfl, ?_⟩; have n0_ := Aside0.mk (Kd.R_mono (Kd.R_keep (IsS81.apart (show IsS81 w0 _ g s0_0 x1001_5 from by repeat (first | (with_reducible first | exact HI0.out | apply IsS81.alloc | apply IsS81.drewN | apply IsS81.drew | apply IsS81.set_1) | exact HI0.out)) (qq4 HO_7.out) (by decide)) hk (fun _ h => h.2)) (fun _ h => h.1)); have n1_ := Aside0.mk (KeepBut.trans qq3 hk (.inl rfl)); have n2_ := Aside0.mk (hb); have n3_ := Aside0.mk (hi); clear HO_7; clear HK; clear HB; clear HI0; have HO_7 := n0_; have HK := n1_; have HB := n2_; have HI0 := n3_; clear n0_ n1_ n2_ n3_; (try clear hb); (try clear hb2); (try clear hk); (try clear hi)))
          go_ret
          exact ⟨_, qq11, Kd.Q_of_R (qq4 HO_7.out), qq6 HI0.out, qq5 HB.out HI0.out, qq3⟩

end Go.Proofs.Ytgdhgncdpmalcaa.Q
namespace Go.Proofs.Ytgdhgncdpmalcaa.Q
open Go.RowKit Go.Proofs.YtgdhgncdpmalcaaW.PrintWords Go.Proofs.YtgdhgncdpmalcaaW.PrintLast Go.Proofs.YtgdhgncdpmalcaaW.PrintMore
attribute [local go_sem] max2_int min2_int max_two min_two max_three min_three max_four min_four
set_option linter.unusedVariables false
set_option linter.unusedSimpArgs false

/-! ### spec_l92Star: function 72 -/
def spec_l92Star.l0 : Nat → List (S32) → List (S32) → Int → List Int → Int → Option ((List (S32)) × Int)
  | 0, _, _, _, _, _ => none
  | k + 1, x3, x4, x5, x1000, x1001 => if x5 < (x3.length : Int) then (if (Int.tmod x5 4) = 0 then ((spec_l6Rd_pick.f k x1000 x1001 3).bind fun bt182 => (if 0 ≤ x5 then (if x4.length < 8796093022208 then (spec_l92Star.l0 k x3 (x4 ++ [(⟨wrap64 ((wrap64 (1 + bt182.1)) * ((rd_T32 x3 x5).f0)), wrap64 ((wrap64 (1 + bt182.1)) * ((rd_T32 x3 x5).f1))⟩ : S32)]) (wrap64 (x5 + 1)) x1000 bt182.2) else (none)) else (none))) else ((spec_l6Rd_pick.f k x1000 x1001 3).bind fun bt189 => (if bt189.1 = 0 then ((spec_l6Rd_pick.f k x1000 bt189.2 3).bind fun bt191 => (if 0 ≤ x5 then (if x4.length < 8796093022208 then (spec_l92Star.l0 k x3 (x4 ++ [(⟨wrap64 ((wrap64 (1 + bt191.1)) * ((rd_T32 x3 x5).f0)), wrap64 ((wrap64 (1 + bt191.1)) * ((rd_T32 x3 x5).f1))⟩ : S32)]) (wrap64 (x5 + 1)) x1000 bt191.2) else (none)) else (none))) else (spec_l92Star.l0 k x3 x4 (wrap64 (x5 + 1)) x1000 bt189.2)))) else (some (x4, x1001))
def spec_l92Star.f (k : Nat) (s0_0 : List Int) (s0_1 : Int) : Option ((List (S32)) × Int) := spec_l92Star.l0 k (([(⟨2, 0⟩ : S32), (⟨2, 1⟩ : S32), (⟨1, 2⟩ : S32), (⟨0, 2⟩ : S32), (⟨(-1), 2⟩ : S32), (⟨(-2), 1⟩ : S32), (⟨(-2), 0⟩ : S32), (⟨(-2), (-1)⟩ : S32), (⟨(-1), (-2)⟩ : S32), (⟨0, (-2)⟩ : S32), (⟨1, (-2)⟩ : S32), (⟨2, (-1)⟩ : S32)] : List (S32))) (([] : List (S32))) 0 s0_0 s0_1
def spec_l92Star.T8 : Bool × List (List Nat × List Nat) := (true, [([], []), ([], []), ([], []), ([], []), ([2, 3], [2, 3]), ([4], [4]), ([5], [5]), ([1, 6], [1, 6]), ([], []), ([], []), ([], []), ([9, 10], [9, 10]), ([11], [11]), ([12], [12]), ([8, 13], [8, 13]), ([7, 14], [7, 14]), ([15], [15]), ([0, 16], [0, 16]), ([17, 17, 0, 1, 2, 3, 4, 5, 6, 7, 8, 9, 10, 11, 12, 13, 14, 15, 16, 17], [0, 17])])
def spec_l92Star.B8 : List Nat := [0, 0, 0, 0, 12, 28, 60, 126, 0, 0, 0, 1536, 3584, 7680, 16128, 32766, 65534, 131071, 262143]
theorem spec_l92Star.tab8 : rtab .any (opsOf Try.f72 8) = spec_l92Star.T8 := by kernel_rfl
theorem spec_l92Star.bits8 : waitsOk spec_l92Star.T8.2 spec_l92Star.B8 = true := by kernel_rfl
set_option maxHeartbeats 8000000 in
set_option maxRecDepth 100000 in
theorem spec_l92Star.calls (k : Nat) (g : Nat) (s0_0 : List Int) (s0_1 : Int) (r1 : List (S32)) (r2 : Int) (w0 w : World) (hI : IsS81 w0 w g s0_0 s0_1) (hB : Below w0.heap.size w0 w) (h : spec_l92Star.f k s0_0 s0_1 = some (r1, r2)) :
    Calls Try.prog 72 #[.pointer (some ⟨g, 0, none⟩)] w fun e w' => ∃ v0_ : Value, e = .returned (v0_) ∧ Kd.R k32 32 w' w.heap.size (fun _ => True) v0_ r1 ∧ IsS81 w0 w' g s0_0 r2 ∧ Below w0.heap.size w0 w' ∧ KeepBut w w' g none := by
  have hu32 := Try.underlying32
  have HI0 := Aside0.mk hI
  have HK := Aside0.mk (KeepBut.refl w g none)
  have HL := Aside0.mk hB.size
  clear hI
  have HW0 := Aside0.mk hB.size
  have HB := Aside0.mk hB
  clear hB
  have H : (spec_l92Star.l0 k (([(⟨2, 0⟩ : S32), (⟨2, 1⟩ : S32), (⟨1, 2⟩ : S32), (⟨0, 2⟩ : S32), (⟨(-1), 2⟩ : S32), (⟨(-2), 1⟩ : S32), (⟨(-2), 0⟩ : S32), (⟨(-2), (-1)⟩ : S32), (⟨(-1), (-2)⟩ : S32), (⟨0, (-2)⟩ : S32), (⟨1, (-2)⟩ : S32), (⟨2, (-1)⟩ : S32)] : List (S32))) (([] : List (S32))) 0 s0_0 s0_1) = some (r1, r2) := h
  clear h
  obtain ⟨y176, hy176⟩ : ∃ y_ : List (S32), y_ = (([(⟨2, 0⟩ : S32), (⟨2, 1⟩ : S32), (⟨1, 2⟩ : S32), (⟨0, 2⟩ : S32), (⟨(-1), 2⟩ : S32), (⟨(-2), 1⟩ : S32), (⟨(-2), 0⟩ : S32), (⟨(-2), (-1)⟩ : S32), (⟨(-1), (-2)⟩ : S32), (⟨0, (-2)⟩ : S32), (⟨1, (-2)⟩ : S32), (⟨2, (-1)⟩ : S32)] : List (S32))) := ⟨_, rfl⟩
  replace H : (spec_l92Star.l0 k y176 (([] : List (S32))) 0 s0_0 s0_1) = some (r1, r2) := by first | (rw [hy176]; with_reducible exact H) | (have H2_ := (Option.bind_some _ _).symm.trans H; rw [hy176]; with_reducible exact H2_) | (have H2_ := (Option.bind_some _ _).symm.trans H; with_reducible exact H2_) | with_reducible exact H | (rw [hy176]; exact H) | exact H
  have Ny176 := Aside0.mk hy176
  clear hy176
  obtain ⟨y179, hy179⟩ : ∃ y_ : List (S32), y_ = (([] : List (S32))) := ⟨_, rfl⟩
  replace H : (spec_l92Star.l0 k y176 y179 0 s0_0 s0_1) = some (r1, r2) := by first | (rw [hy179]; with_reducible exact H) | (have H2_ := (Option.bind_some _ _).symm.trans H; rw [hy179]; with_reducible exact H2_) | (have H2_ := (Option.bind_some _ _).symm.trans H; with_reducible exact H2_) | with_reducible exact H | (rw [hy179]; exact H) | exact H
  have Ny179 := Aside0.mk hy179
  clear hy179
  have H' := Aside0.mk H
  clear H
  go_enter Try.func72, Try.ntmps72
  go_wp2_with (first | ((with_reducible refine gate_dst (N := 19) rfl ?_); refine Kd.R_lit k32 _ 32 ?hg (N := 19) ?hd (xs := ([(⟨2, 0⟩ : S32), (⟨2, 1⟩ : S32), (⟨1, 2⟩ : S32), (⟨0, 2⟩ : S32), (⟨(-1), 2⟩ : S32), (⟨(-2), 1⟩ : S32), (⟨(-2), 0⟩ : S32), (⟨(-2), (-1)⟩ : S32), (⟨(-1), (-2)⟩ : S32), (⟨0, (-2)⟩ : S32), (⟨1, (-2)⟩ : S32), (⟨2, (-1)⟩ : S32)] : List (S32))) (inner := [.int .i64 2, .int .i64 0, .int .i64 2, .int .i64 1, .int .i64 1, .int .i64 2, .int .i64 0, .int .i64 2, .int .i64 (-1), .int .i64 2, .int .i64 (-2), .int .i64 1, .int .i64 (-2), .int .i64 0, .int .i64 (-2), .int .i64 (-1), .int .i64 (-1), .int .i64 (-2), .int .i64 0, .int .i64 (-2), .int .i64 1, .int .i64 (-2), .int .i64 2, .int .i64 (-1)]) (ok := fun _ => True) (okp := fun _ => True) ?hr ?hp (fun _ hk => hk) trivial (Below.refl _ _) (Nat.le_refl _) (by simp) ?_; (case hd => rfl); (case hg => rfl); (case hr => exact qq21); (case hp => exact (Reps.c2 (show Kd.M k32 _ _ _ (⟨2, 0⟩ : S32) [.int .i64 2, .int .i64 0] from (k32_mkM _ _ _ (⟨2, 0⟩ : S32) )) (Reps.c2 (show Kd.M k32 _ _ _ (⟨2, 1⟩ : S32) [.int .i64 2, .int .i64 1] from (k32_mkM _ _ _ (⟨2, 1⟩ : S32) )) (Reps.c2 (show Kd.M k32 _ _ _ (⟨1, 2⟩ : S32) [.int .i64 1, .int .i64 2] from (k32_mkM _ _ _ (⟨1, 2⟩ : S32) )) (Reps.c2 (show Kd.M k32 _ _ _ (⟨0, 2⟩ : S32) [.int .i64 0, .int .i64 2] from (k32_mkM _ _ _ (⟨0, 2⟩ : S32) )) (Reps.c2 (show Kd.M k32 _ _ _ (⟨(-1), 2⟩ : S32) [.int .i64 (-1), .int .i64 2] from (k32_mkM _ _ _ (⟨(-1), 2⟩ : S32) )) (Reps.c2 (show Kd.M k32 _ _ _ (⟨(-2), 1⟩ : S32) [.int .i64 (-2), .int .i64 1] from (k32_mkM _ _ _ (⟨(-2), 1⟩ : S32) )) (Reps.c2 (show Kd.M k32 _ _ _ (⟨(-2), 0⟩ : S32) [.int .i64 (-2), .int .i64 0] from (k32_mkM _ _ _ (⟨(-2), 0⟩ : S32) )) (Reps.c2 (show Kd.M k32 _ _ _ (⟨(-2), (-1)⟩ : S32) [.int .i64 (-2), .int .i64 (-1)] from (k32_mkM _ _ _ (⟨(-2), (-1)⟩ : S32) )) (Reps.c2 (show Kd.M k32 _ _ _ (⟨(-1), (-2)⟩ : S32) [.int .i64 (-1), .int .i64 (-2)] from (k32_mkM _ _ _ (⟨(-1), (-2)⟩ : S32) )) (Reps.c2 (show Kd.M k32 _ _ _ (⟨0, (-2)⟩ : S32) [.int .i64 0, .int .i64 (-2)] from (k32_mkM _ _ _ (⟨0, (-2)⟩ : S32) )) (Reps.c2 (show Kd.M k32 _ _ _ (⟨1, (-2)⟩ : S32) [.int .i64 1, .int .i64 (-2)] from (k32_mkM _ _ _ (⟨1, (-2)⟩ : S32) )) (Reps.c2 (show Kd.M k32 _ _ _ (⟨2, (-1)⟩ : S32) [.int .i64 2, .int .i64 (-1)] from (k32_mkM _ _ _ (⟨2, (-1)⟩ : S32) )) (Reps.none _ _)))))))))))))); intro v177 w2 ho3 hb hg_ hnew_; clear hg_ hnew_; (first | rw [← Ny176.out] at ho3 | (simp only [Int.reduceToNat] at ho3; rw [← Ny176.out] at ho3)); have n0_ := Aside0.mk (Kd.R_lower ho3 (keep_size (w := w) (g := g) (row := none) qq3)); have n1_ := Aside0.mk (IsS81.below (qq6 HI0.out) hb); have n2_ := Aside0.mk (KeepBut.trans qq3 (KeepBut.of_below hb g none) (.inl rfl)); have n3_ := Aside0.mk (below_step (qq5 HB.out HI0.out) hb); clear HI0; clear HK; clear HB; have HO178 := n0_; have HI0 := n1_; have HK := n2_; have HB := n3_; clear n0_ n1_ n2_ n3_; clear hb ho3) | ((with_reducible refine gate_dst (N := 20) rfl ?_); refine Kd.R_lit k32 _ 32 ?hg (N := 20) ?hd (xs := ([] : List (S32))) (inner := []) (ok := fun _ => True) (okp := fun _ => True) ?hr ?hp (fun _ hk => hk) trivial (Below.refl _ _) (Nat.le_refl _) (by simp) ?_; (case hd => rfl); (case hg => rfl); (case hr => exact qq21); (case hp => exact (Reps.none _ _)); intro v180 w4 ho5 hb hg_ hnew_; clear hg_ hnew_; (first | rw [← Ny179.out] at ho5 | (simp only [Int.reduceToNat] at ho5; rw [← Ny179.out] at ho5)); have n0_ := Aside0.mk (Kd.R_elder' (qq4 HO178.out) (Kd.R_base ho5) hb); have n1_ := Aside0.mk (Kd.R_lower (Kd.R_new' ho5 (Kd.R_lt (qq4 HO178.out))) (keep_size (w := w) (g := g) (row := none) qq3)); have n2_ := Aside0.mk (IsS81.below (qq6 HI0.out) hb); have n3_ := Aside0.mk (KeepBut.trans qq3 (KeepBut.of_below hb g none) (.inl rfl)); have n4_ := Aside0.mk (below_step (qq5 HB.out HI0.out) hb); clear HO178; clear HI0; clear HK; clear HB; have HO178 := n0_; have HO181 := n1_; have HI0 := n2_; have HK := n3_; have HB := n4_; clear n0_ n1_ n2_ n3_ n4_; clear hb ho5))
  go_loopg [4, 5] k (fun kq v4 v5 w' => ∃ (x4_1 : List (S32)) (x5_1 : Int) (x1001_1 : Int), v5 = .int .i64 x5_1 ∧ Aside0 (spec_l92Star.l0 kq y176 x4_1 x5_1 s0_0 x1001_1 = some (r1, r2)) ∧ Aside0 (kq ≤ k) ∧ Aside0 (Kd.R k32 32 w' w.heap.size (fun k_ => some k_ ≠ (v4 : Value).ownBlock) v177 y176) ∧ Aside0 (Kd.R k32 32 w' w.heap.size (fun k_ => some k_ ≠ (v177 : Value).ownBlock) v4 x4_1) ∧ Aside0 (IsS81 w0 w' g s0_0 x1001_1) ∧ Aside0 (KeepBut w w' g none) ∧ Aside0 (Below w0.heap.size w0 w'))
  case atStart => exact ⟨(y179), (0), (s0_1), qq23, H', ⟨Nat.le_refl _⟩, ⟨qq35 HO178.out⟩, ⟨qq35 HO181.out⟩, ⟨qq6 HI0.out⟩, ⟨qq3⟩, ⟨qq5 HB.out HI0.out⟩⟩
  case round =>
    clear H'
    try clear c2
    try clear p2
    obtain ⟨x4_1, x5_1, x1001_1, rfl, HA, HK1, HO_3, HO_4, HI0, HK, HB⟩ := hrel
    cases gk with
    | zero => exact absurd HA.out (by simp [spec_l92Star.l0])
    | succ k1 =>
      have H := HA.out
      clear HA
      simp only [spec_l92Star.l0] at H
      by_cases c6 : x5_1 < (y176.length : Int)
      · rw [if_pos c6] at H
        have c6b0 : decide (x5_1 < (y176.length : Int)) = true := decide_eq_true c6
        clear c6
        by_cases c7 : (Int.tmod x5_1 4) = 0
        · rw [if_pos c7] at H
          have c7b0 : ((Int.tmod x5_1 4) == 0) = true := beq_iff_eq.mpr c7
          have c7b1 : ((Int.tmod x5_1 4) != 0) = false := bne_eq_false_iff_eq.mpr c7
          clear c7
          replace H := Option.bind_eq_some_iff.mp H
          obtain ⟨⟨t182, t183⟩, A80, H⟩ := H
          replace H : (if 0 ≤ x5_1 then (if x4_1.length < 8796093022208 then (spec_l92Star.l0 k1 y176 (x4_1 ++ [(⟨wrap64 ((wrap64 (1 + t182)) * ((rd_T32 y176 x5_1).f0)), wrap64 ((wrap64 (1 + t182)) * ((rd_T32 y176 x5_1).f1))⟩ : S32)]) (wrap64 (x5_1 + 1)) s0_0 t183) else (none)) else (none)) = some (r1, r2) := H
          have A8 := Aside0.mk A80
          clear A80
          by_cases c9 : 0 ≤ x5_1
          · rw [if_pos c9] at H
            have c9b0 : decide (0 ≤ x5_1) = true := decide_eq_true c9
            clear c9
            by_cases c10 : x4_1.length < 8796093022208
            · rw [if_pos c10] at H
              have LMc10 := Aside0.mk c10
              clear c10
              obtain ⟨y186, hy186⟩ : ∃ y_ : List (S32), y_ = (x4_1 ++ [(⟨wrap64 ((wrap64 (1 + t182)) * ((rd_T32 y176 x5_1).f0)), wrap64 ((wrap64 (1 + t182)) * ((rd_T32 y176 x5_1).f1))⟩ : S32)]) := ⟨_, rfl⟩
              replace H : (spec_l92Star.l0 k1 y176 y186 (wrap64 (x5_1 + 1)) s0_0 t183) = some (r1, r2) := by first | (rw [hy186]; with_reducible exact H) | (have H2_ := (Option.bind_some _ _).symm.trans H; rw [hy186]; with_reducible exact H2_) | (have H2_ := (Option.bind_some _ _).symm.trans H; with_reducible exact H2_) | with_reducible exact H | (rw [hy186]; exact H) | exact H
              have Ny186 := Aside0.mk hy186
              clear hy186
              have H' := Aside0.mk H
              clear H
              obtain ⟨Ao11, co11, eo11⟩ := Kd.R_slice HO_3.out
              subst eo11
              try go_wp2_with (first | ((with_reducible refine gate_callee (f := 48) rfl ?_); refine goesL_ (some 36) rfl rfl Try.func48 (by kernel_rfl) rfl #[.pointer (some ⟨g, 0, none⟩), .int .i64 3] rfl qq2 ?_; (with_reducible refine (spec_l6Rd_pick.calls k1 g s0_0 x1001_1 3 t182 t183 w0 _ ?side1 ?side2 A8.out).mono ?_); (case side1 => exact qq6 HI0.out); (case side2 => exact qq5 HB.out HI0.out); rintro e w12 ⟨rfl, hi, hb, hk⟩; refine ⟨_, rfl, ?_⟩; have n0_ := Aside0.mk (Kd.R_mono (Kd.R_keep (IsS81.apart (show IsS81 w0 _ g s0_0 x1001_1 from by repeat (first | (with_reducible first | exact HI0.out | apply IsS81.alloc | apply IsS81.drewN | apply IsS81.drew | apply IsS81.set_1) | exact HI0.out)) (qq4 HO_3.out) (by decide)) hk (fun _ h => h.2)) (fun _ h => h.1)); have n1_ := Aside0.mk (Kd.R_mono (Kd.R_keep (IsS81.apart (show IsS81 w0 _ g s0_0 x1001_1 from by repeat (first | (with_reducible first | exact HI0.out | apply IsS81.alloc | apply IsS81.drewN | apply IsS81.drew | apply IsS81.set_1) | exact HI0.out)) (qq4 HO_4.out) (by decide)) hk (fun _ h => h.2)) (fun _ h => h.1)); have n2_ := Aside0.mk (KeepBut.trans qq3 hk (.inl rfl)); have n3_ := Aside0.mk (hb); have n4_ := Aside0.mk (hi); clear HO_3; clear HO_4; clear HK; clear HB; clear HI0; have HO_3 := n0_; have HO_4 := n1_; have HK := n2_; have HB := n3_; have HI0 := n4_; clear n0_ n1_ n2_ n3_ n4_; (try clear hb); (try clear hb2); (try clear hk); (try clear hi)))
              have n0_ := Aside0.mk (Kd.R_drew HO_3.out)
              have n1_ := Aside0.mk (Kd.R_drew HO_4.out)
              have n2_ := Aside0.mk (IsS81.drew HI0.out)
              have n3_ := Aside0.mk (keep_drew HK.out)
              have n4_ := Aside0.mk (below_drew1 HB.out)
              clear HO_3
              clear HO_4
              clear HI0
              clear HK
              clear HB
              have HO_3 := n0_
              have HO_4 := n1_
              have HI0 := n2_
              have HK := n3_
              have HB := n4_
              clear n0_ n1_ n2_ n3_ n4_
              have p184 : 0 ≤ (x5_1 : Int) := of_decide_eq_true qq18
              have q184 : x5_1 < (y176.length : Int) := of_decide_eq_true qq18
              obtain ⟨ad184, e184, hx184_0, hx184_1⟩ := at_T32 (Kd.R_reads' HO_3.out).2.2 x5_1 p184 q184
              cases e184
              replace p184 := eq_true p184
              replace q184 := eq_true q184
              have p185 : 0 ≤ (x5_1 : Int) := of_decide_eq_true qq18
              have q185 : x5_1 < (y176.length : Int) := of_decide_eq_true qq18
              obtain ⟨ad185, e185, hx185_0, hx185_1⟩ := at_T32 (Kd.R_reads' HO_3.out).2.2 x5_1 p185 q185
              obtain rfl : ad184 = ad185 := (by injection e185)
              replace p185 := eq_true p185
              replace q185 := eq_true q185
              refine start_ (n := 19) (S := fun w' => w'.cell? (ad184.add ((x5_1).toNat * 2)) = some (.int .i64 ((rd_T32 y176 x5_1).f0)) ∧ w'.cell? ⟨(ad184.add ((x5_1).toNat * 2)).block, (ad184.add ((x5_1).toNat * 2)).off + 1, none⟩ = some (.int .i64 ((rd_T32 y176 x5_1).f1)) ∧ w'.cell? (ad184.add ((x5_1).toNat * 2)) = some (.int .i64 ((rd_T32 y176 x5_1).f0)) ∧ w'.cell? ⟨(ad184.add ((x5_1).toNat * 2)).block, (ad184.add ((x5_1).toNat * 2)).off + 1, none⟩ = some (.int .i64 ((rd_T32 y176 x5_1).f1))) (ds := [16, 17]) #[false, false, false, false, false, false, false, false, false, false, false, false, false, false, false, false, false, false, false] (by kernel_rfl) rfl rfl ⟨hx184_0, hx184_1, hx185_0, hx185_1⟩ (fun hHeld => ?_); refine with_tabW spec_l92Star.tab8 spec_l92Star.bits8 (fun HT_ HW_ => ?_)
              generalize w12.drew = w13 at HO_3 HO_4 HI0 HK HB hx184_0 hx184_1 hx185_0 hx185_1 hHeld ⊢
              refine pure_ (i := 0) (N := some 38) #[true, false, false, false, false, false, false, false, false, false, false, false, false, false, false, false, false, false, false] rfl rfl (any_of HT_.out (by kernel_rfl)) (fun _ _ _ h => h) (Or.inl ⟨by rfl, pA_⟩) pB_ ?_
              refine pure_ (i := 1) (N := some 39) #[true, true, false, false, false, false, false, false, false, false, false, false, false, false, false, false, false, false, false] rfl rfl (any_of HT_.out (by kernel_rfl)) (fun _ _ _ h => h) (Or.inl ⟨by rfl, pA_⟩) pB_ ?_
              refine pure_ (i := 2) (N := some 40) #[true, true, true, false, false, false, false, false, false, false, false, false, false, false, false, false, false, false, false] rfl rfl (any_of HT_.out (by kernel_rfl)) (fun _ _ _ h => h) (Or.inl ⟨by rfl, pA_⟩) pB_ ?_
              refine pure_ (i := 3) (N := some 41) #[true, true, true, true, false, false, false, false, false, false, false, false, false, false, false, false, false, false, false] rfl rfl (any_of HT_.out (by kernel_rfl)) (fun _ _ _ h => h) (Or.inl ⟨by rfl, pA_⟩) pB_ ?_
              refine pure_ (i := 4) (N := some 42) #[true, true, true, true, true, false, false, false, false, false, false, false, false, false, false, false, false, false, false] rfl rfl (any_of HT_.out (by kernel_rfl)) (fun _ _ _ h => h) (Or.inl ⟨by rfl, pA_⟩) pB_ ?_
              refine pure_ (i := 5) (N := some 43) #[true, true, true, true, true, true, false, false, false, false, false, false, false, false, false, false, false, false, false] rfl rfl (any_of HT_.out (by kernel_rfl)) (fun _ _ _ h => h) (Or.inl ⟨by rfl, pA_⟩) pB_ ?_
              refine pure_ (i := 8) (N := some 46) #[true, true, true, true, true, true, false, false, true, false, false, false, false, false, false, false, false, false, false] rfl rfl (any_of HT_.out (by kernel_rfl)) (fun _ _ _ h => h) (Or.inl ⟨by rfl, pA_⟩) pB_ ?_
              refine pure_ (i := 9) (N := some 47) #[true, true, true, true, true, true, false, false, true, true, false, false, false, false, false, false, false, false, false] rfl rfl (any_of HT_.out (by kernel_rfl)) (fun _ _ _ h => h) (Or.inl ⟨by rfl, pA_⟩) pB_ ?_
              refine pure_ (i := 10) (N := some 48) #[true, true, true, true, true, true, false, false, true, true, true, false, false, false, false, false, false, false, false] rfl rfl (any_of HT_.out (by kernel_rfl)) (fun _ _ _ h => h) (Or.inl ⟨by rfl, pA_⟩) pB_ ?_
              refine pure_ (i := 11) (N := some 49) #[true, true, true, true, true, true, false, false, true, true, true, true, false, false, false, false, false, false, false] rfl rfl (any_of HT_.out (by kernel_rfl)) (fun _ _ _ h => h) (Or.inl ⟨by rfl, pA_⟩) pB_ ?_
              refine pure_ (i := 12) (N := some 50) #[true, true, true, true, true, true, false, false, true, true, true, true, true, false, false, false, false, false, false] rfl rfl (any_of HT_.out (by kernel_rfl)) (fun _ _ _ h => h) (Or.inl ⟨by rfl, pA_⟩) pB_ ?_
              refine take_ (i := 6) (N := some 44) (v := ?_) (a' := ?_) #[true, true, true, true, true, true, true, false, true, true, true, true, true, false, false, false, false, false, false] rfl rfl (take_ofW HT_.out HW_.out (by kernel_rfl)) (fun _ _ _ h => h) (Or.inl ⟨by rfl, ?_⟩) hHeld ?_ ?_
              rotate_left
              · rintro w' ⟨s0, s1, s2, s3⟩
                go_simp
                with_reducible rfl
              rotate_left
              · simp only [Act.put, List.setIfInBounds_toArray, List.set_cons_zero, List.set_cons_succ, i64_w, i32_w]
                rfl
              refine pure_ (i := 7) (N := some 45) #[true, true, true, true, true, true, true, true, true, true, true, true, true, false, false, false, false, false, false] rfl rfl (any_of HT_.out (by kernel_rfl)) (fun _ _ _ h => h) (Or.inl ⟨by rfl, pA_⟩) pB_ ?_
              refine take_ (i := 13) (N := some 51) (v := ?_) (a' := ?_) #[true, true, true, true, true, true, true, true, true, true, true, true, true, true, false, false, false, false, false] rfl rfl (take_ofW HT_.out HW_.out (by kernel_rfl)) (fun _ _ _ h => h) (Or.inl ⟨by rfl, ?_⟩) hHeld ?_ ?_
              rotate_left
              · rintro w' ⟨s0, s1, s2, s3⟩
                go_simp
                with_reducible rfl
              rotate_left
              · simp only [Act.put, List.setIfInBounds_toArray, List.set_cons_zero, List.set_cons_succ, i64_w, i32_w]
                rfl
              refine pure_ (i := 14) (N := some 52) #[true, true, true, true, true, true, true, true, true, true, true, true, true, true, true, false, false, false, false] rfl rfl (any_of HT_.out (by kernel_rfl)) (fun _ _ _ h => h) (Or.inl ⟨by rfl, pA_⟩) pB_ ?_
              refine pure_ (i := 15) (N := some 53) #[true, true, true, true, true, true, true, true, true, true, true, true, true, true, true, true, false, false, false] rfl rfl (any_of HT_.out (by kernel_rfl)) (fun _ _ _ h => h) (Or.inl ⟨by rfl, pA_⟩) pB_ ?_
              refine last_ (i := 16) (N := some 54) #[true, true, true, true, true, true, true, true, true, true, true, true, true, true, true, true, true, false, false] rfl rfl (one_of HT_.out (by kernel_rfl)) (by decide) (fun K hK => ?_)
              refine value_ (w1 := ?_) (v := ?_) (by rfl) rfl ?_ ?_
              rotate_left 2
              · go_simp
                constructor
                · rfl
                · rfl
              refine hK.out _ _ ?_
              clear hK K
              refine norm_ (a' := ?_) ?_ ?_
              rotate_left
              · show Act.put _ (some 54) _ = _
                simp only [Act.put, List.setIfInBounds_toArray, List.set_cons_zero, List.set_cons_succ, i64_w, i32_w]
                rfl
              refine last_ (i := 17) (N := some 55) #[true, true, true, true, true, true, true, true, true, true, true, true, true, true, true, true, true, true, false] rfl rfl (one_of HT_.out (by kernel_rfl)) (by decide) (fun K hK => ?_)
              refine Kd.R_append_step k32 w.heap.size (by rfl) (.tmp 38) (.tmp 54) 23 32 (.agg #[(.int .i64 0), (.int .i64 0)]) 16 rfl Try.underlying23 info32 rfl (by decide) (by omega) u4 x4_1 (⟨wrap64 ((wrap64 (1 + t182)) * ((rd_T32 y176 x5_1).f0)), wrap64 ((wrap64 (1 + t182)) * ((rd_T32 y176 x5_1).f1))⟩ : S32) [.int .i64 (wrap64 ((wrap64 (1 + t182)) * ((rd_T32 y176 x5_1).f0))), .int .i64 (wrap64 ((wrap64 (1 + t182)) * ((rd_T32 y176 x5_1).f1)))] (fun k_ => some k_ ≠ (.slice (some ad184) y176.length co11 : Value).ownBlock) (fun _ => False) rfl rfl ?aP (fun _ hk => hk.elim) ?aF ?aO (Below.refl _ _) ?aS ?aL ?_
              (case aP => exact k32_mkM _ _ _ (⟨wrap64 ((wrap64 (1 + t182)) * ((rd_T32 y176 x5_1).f0)), wrap64 ((wrap64 (1 + t182)) * ((rd_T32 y176 x5_1).f1))⟩ : S32))
              (case aF => exact (fun k_ hk => Kd.fresh' (Kd.R_lt (qq4 HO_3.out)) k_ hk))
              (case aO => exact (qq4 HO_4.out))
              (case aS => exact qq70)
              (case aL => have := LMc10.out; omega)
              intro v187 w14 ho hb hg hat
              rw [← Ny186.out] at ho
              have n0_ := Aside0.mk (Kd.R_after (ok := (fun _ => True)) qq73 hg hat)
              have n1_ := Aside0.mk (IsS81.grown (qq6 HI0.out) hg (IsS81.own_ne HI0.out HO_4.out (by decide)))
              have n2_ := Aside0.mk (below_weaken (qq5 HB.out HI0.out) HL.out hb)
              have n3_ := Aside0.mk (KeepBut.trans qq3 (KeepBut.of_grown hg g) (Kd.R_base2 HO_4.out))
              have n4_ := Aside0.mk (ho)
              clear HO_3
              clear HI0
              clear HB
              clear HK
              clear HO_4
              have HO_3 := n0_
              have HI0 := n1_
              have HB := n2_
              have HK := n3_
              have HO188 := n4_
              clear n0_ n1_ n2_ n3_ n4_
              clear ho hb hg hat
              refine hK.out _ _ ?_
              clear hK K
              refine norm_ (a' := ?_) ?_ ?_
              rotate_left
              · show Act.put _ (some 55) _ = _
                simp only [Act.put, List.setIfInBounds_toArray, List.set_cons_zero, List.set_cons_succ, i64_w, i32_w]
                rfl
              refine pure_ (i := 18) (N := some 4) #[true, true, true, true, true, true, true, true, true, true, true, true, true, true, true, true, true, true, true] rfl rfl (any_of HT_.out (by kernel_rfl)) (fun _ _ _ h => h) (Or.inl ⟨by rfl, pA_⟩) pB_ ?_
              refine done_ (done_of HT_.out (by kernel_rfl)) ?_
              try go_wp2
              go_roundg k1
              case measure => have := HK1.out; omega
              case rel => exact ⟨(y186), (wrap64 (x5_1 + 1)), (t183), qq23, H', ⟨by have := HK1.out; omega⟩, ⟨qq35 HO_3.out⟩, ⟨qq4 HO188.out⟩, ⟨qq6 HI0.out⟩, ⟨qq3⟩, ⟨qq5 HB.out HI0.out⟩⟩
            · rw [if_neg c10] at H
              exact absurd H (by simp)
          · rw [if_neg c9] at H
            exact absurd H (by simp)
        · rw [if_neg c7] at H
          have c7b0 : ((Int.tmod x5_1 4) == 0) = false := beq_eq_false_iff_ne.mpr c7
          have c7b1 : ((Int.tmod x5_1 4) != 0) = true := bne_iff_ne.mpr c7
          replace H := Option.bind_eq_some_iff.mp H
          obtain ⟨⟨t189, t190⟩, A150, H⟩ := H
          replace H : (if t189 = 0 then ((spec_l6Rd_pick.f k1 s0_0 t190 3).bind fun bt191 => (if 0 ≤ x5_1 then (if x4_1.length < 8796093022208 then (spec_l92Star.l0 k1 y176 (x4_1 ++ [(⟨wrap64 ((wrap64 (1 + bt191.1)) * ((rd_T32 y176 x5_1).f0)), wrap64 ((wrap64 (1 + bt191.1)) * ((rd_T32 y176 x5_1).f1))⟩ : S32)]) (wrap64 (x5_1 + 1)) s0_0 bt191.2) else (none)) else (none))) else (spec_l92Star.l0 k1 y176 x4_1 (wrap64 (x5_1 + 1)) s0_0 t190)) = some (r1, r2) := H
          have A15 := Aside0.mk A150
          clear A150
          by_cases c16 : t189 = 0
          · rw [if_pos c16] at H
            have c16b0 : (t189 == 0) = true := beq_iff_eq.mpr c16
            have c16b1 : (t189 != 0) = false := bne_eq_false_iff_eq.mpr c16
            clear c16
            replace H := Option.bind_eq_some_iff.mp H
            obtain ⟨⟨t191, t192⟩, A170, H⟩ := H
            replace H : (if 0 ≤ x5_1 then (if x4_1.length < 8796093022208 then (spec_l92Star.l0 k1 y176 (x4_1 ++ [(⟨wrap64 ((wrap64 (1 + t191)) * ((rd_T32 y176 x5_1).f0)), wrap64 ((wrap64 (1 + t191)) * ((rd_T32 y176 x5_1).f1))⟩ : S32)]) (wrap64 (x5_1 + 1)) s0_0 t192) else (none)) else (none)) = some (r1, r2) := H
            have A17 := Aside0.mk A170
            clear A170
            by_cases c18 : 0 ≤ x5_1
            · rw [if_pos c18] at H
              have c18b0 : decide (0 ≤ x5_1) = true := decide_eq_true c18
              clear c18
              by_cases c19 : x4_1.length < 8796093022208
              · rw [if_pos c19] at H
                have LMc19 := Aside0.mk c19
                clear c19
                obtain ⟨y195, hy195⟩ : ∃ y_ : List (S32), y_ = (x4_1 ++ [(⟨wrap64 ((wrap64 (1 + t191)) * ((rd_T32 y176 x5_1).f0)), wrap64 ((wrap64 (1 + t191)) * ((rd_T32 y176 x5_1).f1))⟩ : S32)]) := ⟨_, rfl⟩
                replace H : (spec_l92Star.l0 k1 y176 y195 (wrap64 (x5_1 + 1)) s0_0 t192) = some (r1, r2) := by first | (rw [hy195]; with_reducible exact H) | (have H2_ := (Option.bind_some _ _).symm.trans H; rw [hy195]; with_reducible exact H2_) | (have H2_ := (Option.bind_some _ _).symm.trans H; with_reducible exact H2_) | with_reducible exact H | (rw [hy195]; exact H) | exact H
                have Ny195 := Aside0.mk hy195
                clear hy195
                have H' := Aside0.mk H
                clear H
                obtain ⟨Ao20, co20, eo20⟩ := Kd.R_slice HO_3.out
                subst eo20
                try go_wp2_with (first | (go_at_call 48; (with_reducible refine (spec_l6Rd_pick.calls k1 g s0_0 x1001_1 3 t189 t190 w0 _ ?side1 ?side2 A15.out).mono ?_); (case side1 => exact qq6 HI0.out); (case side2 => exact qq5 HB.out HI0.out); rintro e w21 ⟨rfl, hi, hb, hk⟩; have n0_ := Aside0.mk (Kd.R_mono (Kd.R_keep (IsS81.apart (show IsS81 w0 _ g s0_0 x1001_1 from by repeat (first | (with_reducible first | exact HI0.out | apply IsS81.alloc | apply IsS81.drewN | apply IsS81.drew | apply IsS81.set_1) | exact HI0.out)) (qq4 HO_3.out) (by decide)) hk (fun _ h => h.2)) (fun _ h => h.1)); have n1_ := Aside0.mk (Kd.R_mono (Kd.R_keep (IsS81.apart (show IsS81 w0 _ g s0_0 x1001_1 from by repeat (first | (with_reducible first | exact HI0.out | apply IsS81.alloc | apply IsS81.drewN | apply IsS81.drew | apply IsS81.set_1) | exact HI0.out)) (qq4 HO_4.out) (by decide)) hk (fun _ h => h.2)) (fun _ h => h.1)); have n2_ := Aside0.mk (KeepBut.trans qq3 hk (.inl rfl)); have n3_ := Aside0.mk (hb); have n4_ := Aside0.mk (hi); clear HO_3; clear HO_4; clear HK; clear HB; clear HI0; have HO_3 := n0_; have HO_4 := n1_; have HK := n2_; have HB := n3_; have HI0 := n4_; clear n0_ n1_ n2_ n3_ n4_; (try clear hb); (try clear hb2); (try clear hk); (try clear hi)) | ((with_reducible refine gate_callee (f := 48) rfl ?_); refine goesL_ (some 36) rfl rfl Try.func48 (by kernel_rfl) rfl #[.pointer (some ⟨g, 0, none⟩), .int .i64 3] rfl qq2 ?_; (with_reducible refine (spec_l6Rd_pick.calls k1 g s0_0 t190 3 t191 t192 w0 _ ?side1 ?side2 A17.out).mono ?_); (case side1 => exact qq6 HI0.out); (case side2 => exact qq5 HB.out HI0.out); rintro e w22 ⟨rfl, hi, hb, hk⟩; refine ⟨_, rfl, ?_⟩; have n0_ := Aside0.mk (Kd.R_mono (Kd.R_keep (IsS81.apart (show IsS81 w0 _ g s0_0 t190 from by repeat (first | (with_reducible first | exact HI0.out | apply IsS81.alloc | apply IsS81.drewN | apply IsS81.drew | apply IsS81.set_1) | exact HI0.out)) (qq4 HO_3.out) (by decide)) hk (fun _ h => h.2)) (fun _ h => h.1)); have n1_ := Aside0.mk (Kd.R_mono (Kd.R_keep (IsS81.apart (show IsS81 w0 _ g s0_0 t190 from by repeat (first | (with_reducible first | exact HI0.out | apply IsS81.alloc | apply IsS81.drewN | apply IsS81.drew | apply IsS81.set_1) | exact HI0.out)) (qq4 HO_4.out) (by decide)) hk (fun _ h => h.2)) (fun _ h => h.1)); have n2_ := Aside0.mk (KeepBut.trans qq3 hk (.inl rfl)); have n3_ := Aside0.mk (hb); have n4_ := Aside0.mk (hi); clear HO_3; clear HO_4; clear HK; clear HB; clear HI0; have HO_3 := n0_; have HO_4 := n1_; have HK := n2_; have HB := n3_; have HI0 := n4_; clear n0_ n1_ n2_ n3_ n4_; (try clear hb); (try clear hb2); (try clear hk); (try clear hi)))
                have n0_ := Aside0.mk (Kd.R_drew HO_3.out)
                have n1_ := Aside0.mk (Kd.R_drew HO_4.out)
                have n2_ := Aside0.mk (IsS81.drew HI0.out)
                have n3_ := Aside0.mk (keep_drew HK.out)
                have n4_ := Aside0.mk (below_drew1 HB.out)
                clear HO_3
                clear HO_4
                clear HI0
                clear HK
                clear HB
                have HO_3 := n0_
                have HO_4 := n1_
                have HI0 := n2_
                have HK := n3_
                have HB := n4_
                clear n0_ n1_ n2_ n3_ n4_
                have p193 : 0 ≤ (x5_1 : Int) := of_decide_eq_true qq18
                have q193 : x5_1 < (y176.length : Int) := of_decide_eq_true qq18
                obtain ⟨ad193, e193, hx193_0, hx193_1⟩ := at_T32 (Kd.R_reads' HO_3.out).2.2 x5_1 p193 q193
                cases e193
                replace p193 := eq_true p193
                replace q193 := eq_true q193
                have p194 : 0 ≤ (x5_1 : Int) := of_decide_eq_true qq18
                have q194 : x5_1 < (y176.length : Int) := of_decide_eq_true qq18
                obtain ⟨ad194, e194, hx194_0, hx194_1⟩ := at_T32 (Kd.R_reads' HO_3.out).2.2 x5_1 p194 q194
                obtain rfl : ad193 = ad194 := (by injection e194)
                replace p194 := eq_true p194
                replace q194 := eq_true q194
                refine start_ (n := 19) (S := fun w' => w'.cell? (ad193.add ((x5_1).toNat * 2)) = some (.int .i64 ((rd_T32 y176 x5_1).f0)) ∧ w'.cell? ⟨(ad193.add ((x5_1).toNat * 2)).block, (ad193.add ((x5_1).toNat * 2)).off + 1, none⟩ = some (.int .i64 ((rd_T32 y176 x5_1).f1)) ∧ w'.cell? (ad193.add ((x5_1).toNat * 2)) = some (.int .i64 ((rd_T32 y176 x5_1).f0)) ∧ w'.cell? ⟨(ad193.add ((x5_1).toNat * 2)).block, (ad193.add ((x5_1).toNat * 2)).off + 1, none⟩ = some (.int .i64 ((rd_T32 y176 x5_1).f1))) (ds := [16, 17]) #[false, false, false, false, false, false, false, false, false, false, false, false, false, false, false, false, false, false, false] (by kernel_rfl) rfl rfl ⟨hx193_0, hx193_1, hx194_0, hx194_1⟩ (fun hHeld => ?_); refine with_tabW spec_l92Star.tab8 spec_l92Star.bits8 (fun HT_ HW_ => ?_)
                generalize w22.drew = w23 at HO_3 HO_4 HI0 HK HB hx193_0 hx193_1 hx194_0 hx194_1 hHeld ⊢
                refine pure_ (i := 0) (N := some 38) #[true, false, false, false, false, false, false, false, false, false, false, false, false, false, false, false, false, false, false] rfl rfl (any_of HT_.out (by kernel_rfl)) (fun _ _ _ h => h) (Or.inl ⟨by rfl, pA_⟩) pB_ ?_
                refine pure_ (i := 1) (N := some 39) #[true, true, false, false, false, false, false, false, false, false, false, false, false, false, false, false, false, false, false] rfl rfl (any_of HT_.out (by kernel_rfl)) (fun _ _ _ h => h) (Or.inl ⟨by rfl, pA_⟩) pB_ ?_
                refine pure_ (i := 2) (N := some 40) #[true, true, true, false, false, false, false, false, false, false, false, false, false, false, false, false, false, false, false] rfl rfl (any_of HT_.out (by kernel_rfl)) (fun _ _ _ h => h) (Or.inl ⟨by rfl, pA_⟩) pB_ ?_
                refine pure_ (i := 3) (N := some 41) #[true, true, true, true, false, false, false, false, false, false, false, false, false, false, false, false, false, false, false] rfl rfl (any_of HT_.out (by kernel_rfl)) (fun _ _ _ h => h) (Or.inl ⟨by rfl, pA_⟩) pB_ ?_
                refine pure_ (i := 4) (N := some 42) #[true, true, true, true, true, false, false, false, false, false, false, false, false, false, false, false, false, false, false] rfl rfl (any_of HT_.out (by kernel_rfl)) (fun _ _ _ h => h) (Or.inl ⟨by rfl, pA_⟩) pB_ ?_
                refine pure_ (i := 5) (N := some 43) #[true, true, true, true, true, true, false, false, false, false, false, false, false, false, false, false, false, false, false] rfl rfl (any_of HT_.out (by kernel_rfl)) (fun _ _ _ h => h) (Or.inl ⟨by rfl, pA_⟩) pB_ ?_
                refine pure_ (i := 8) (N := some 46) #[true, true, true, true, true, true, false, false, true, false, false, false, false, false, false, false, false, false, false] rfl rfl (any_of HT_.out (by kernel_rfl)) (fun _ _ _ h => h) (Or.inl ⟨by rfl, pA_⟩) pB_ ?_
                refine pure_ (i := 9) (N := some 47) #[true, true, true, true, true, true, false, false, true, true, false, false, false, false, false, false, false, false, false] rfl rfl (any_of HT_.out (by kernel_rfl)) (fun _ _ _ h => h) (Or.inl ⟨by rfl, pA_⟩) pB_ ?_
                refine pure_ (i := 10) (N := some 48) #[true, true, true, true, true, true, false, false, true, true, true, false, false, false, false, false, false, false, false] rfl rfl (any_of HT_.out (by kernel_rfl)) (fun _ _ _ h => h) (Or.inl ⟨by rfl, pA_⟩) pB_ ?_
                refine pure_ (i := 11) (N := some 49) #[true, true, true, true, true, true, false, false, true, true, true, true, false, false, false, false, false, false, false] rfl rfl (any_of HT_.out (by kernel_rfl)) (fun _ _ _ h => h) (Or.inl ⟨by rfl, pA_⟩) pB_ ?_
                refine pure_ (i := 12) (N := some 50) #[true, true, true, true, true, true, false, false, true, true, true, true, true, false, false, false, false, false, false] rfl rfl (any_of HT_.out (by kernel_rfl)) (fun _ _ _ h => h) (Or.inl ⟨by rfl, pA_⟩) pB_ ?_
                refine take_ (i := 6) (N := some 44) (v := ?_) (a' := ?_) #[true, true, true, true, true, true, true, false, true, true, true, true, true, false, false, false, false, false, false] rfl rfl (take_ofW HT_.out HW_.out (by kernel_rfl)) (fun _ _ _ h => h) (Or.inl ⟨by rfl, ?_⟩) hHeld ?_ ?_
                rotate_left
                · rintro w' ⟨s0, s1, s2, s3⟩
                  go_simp
                  with_reducible rfl
                rotate_left
                · simp only [Act.put, List.setIfInBounds_toArray, List.set_cons_zero, List.set_cons_succ, i64_w, i32_w]
                  rfl
                refine pure_ (i := 7) (N := some 45) #[true, true, true, true, true, true, true, true, true, true, true, true, true, false, false, false, false, false, false] rfl rfl (any_of HT_.out (by kernel_rfl)) (fun _ _ _ h => h) (Or.inl ⟨by rfl, pA_⟩) pB_ ?_
                refine take_ (i := 13) (N := some 51) (v := ?_) (a' := ?_) #[true, true, true, true, true, true, true, true, true, true, true, true, true, true, false, false, false, false, false] rfl rfl (take_ofW HT_.out HW_.out (by kernel_rfl)) (fun _ _ _ h => h) (Or.inl ⟨by rfl, ?_⟩) hHeld ?_ ?_
                rotate_left
                · rintro w' ⟨s0, s1, s2, s3⟩
                  go_simp
                  with_reducible rfl
                rotate_left
                · simp only [Act.put, List.setIfInBounds_toArray, List.set_cons_zero, List.set_cons_succ, i64_w, i32_w]
                  rfl
                refine pure_ (i := 14) (N := some 52) #[true, true, true, true, true, true, true, true, true, true, true, true, true, true, true, false, false, false, false] rfl rfl (any_of HT_.out (by kernel_rfl)) (fun _ _ _ h => h) (Or.inl ⟨by rfl, pA_⟩) pB_ ?_
                refine pure_ (i := 15) (N := some 53) #[true, true, true, true, true, true, true, true, true, true, true, true, true, true, true, true, false, false, false] rfl rfl (any_of HT_.out (by kernel_rfl)) (fun _ _ _ h => h) (Or.inl ⟨by rfl, pA_⟩) pB_ ?_
                refine last_ (i := 16) (N := some 54) #[true, true, true, true, true, true, true, true, true, true, true, true, true, true, true, true, true, false, false] rfl rfl (one_of HT_.out (by kernel_rfl)) (by decide) (fun K hK => ?_)
                refine value_ (w1 := ?_) (v := ?_) (by rfl) rfl ?_ ?_
                rotate_left 2
                · go_simp
                  constructor
                  · rfl
                  · rfl
                refine hK.out _ _ ?_
                clear hK K
                refine norm_ (a' := ?_) ?_ ?_
                rotate_left
                · show Act.put _ (some 54) _ = _
                  simp only [Act.put, List.setIfInBounds_toArray, List.set_cons_zero, List.set_cons_succ, i64_w, i32_w]
                  rfl
                refine last_ (i := 17) (N := some 55) #[true, true, true, true, true, true, true, true, true, true, true, true, true, true, true, true, true, true, false] rfl rfl (one_of HT_.out (by kernel_rfl)) (by decide) (fun K hK => ?_)
                refine Kd.R_append_step k32 w.heap.size (by rfl) (.tmp 38) (.tmp 54) 23 32 (.agg #[(.int .i64 0), (.int .i64 0)]) 16 rfl Try.underlying23 info32 rfl (by decide) (by omega) u4 x4_1 (⟨wrap64 ((wrap64 (1 + t191)) * ((rd_T32 y176 x5_1).f0)), wrap64 ((wrap64 (1 + t191)) * ((rd_T32 y176 x5_1).f1))⟩ : S32) [.int .i64 (wrap64 ((wrap64 (1 + t191)) * ((rd_T32 y176 x5_1).f0))), .int .i64 (wrap64 ((wrap64 (1 + t191)) * ((rd_T32 y176 x5_1).f1)))] (fun k_ => some k_ ≠ (.slice (some ad193) y176.length co20 : Value).ownBlock) (fun _ => False) rfl rfl ?aP (fun _ hk => hk.elim) ?aF ?aO (Below.refl _ _) ?aS ?aL ?_
                (case aP => exact k32_mkM _ _ _ (⟨wrap64 ((wrap64 (1 + t191)) * ((rd_T32 y176 x5_1).f0)), wrap64 ((wrap64 (1 + t191)) * ((rd_T32 y176 x5_1).f1))⟩ : S32))
                (case aF => exact (fun k_ hk => Kd.fresh' (Kd.R_lt (qq4 HO_3.out)) k_ hk))
                (case aO => exact (qq4 HO_4.out))
                (case aS => exact qq70)
                (case aL => have := LMc19.out; omega)
                intro v196 w24 ho hb hg hat
                rw [← Ny195.out] at ho
                have n0_ := Aside0.mk (Kd.R_after (ok := (fun _ => True)) qq73 hg hat)
                have n1_ := Aside0.mk (IsS81.grown (qq6 HI0.out) hg (IsS81.own_ne HI0.out HO_4.out (by decide)))
                have n2_ := Aside0.mk (below_weaken (qq5 HB.out HI0.out) HL.out hb)
                have n3_ := Aside0.mk (KeepBut.trans qq3 (KeepBut.of_grown hg g) (Kd.R_base2 HO_4.out))
                have n4_ := Aside0.mk (ho)
                clear HO_3
                clear HI0
                clear HB
                clear HK
                clear HO_4
                have HO_3 := n0_
                have HI0 := n1_
                have HB := n2_
                have HK := n3_
                have HO197 := n4_
                clear n0_ n1_ n2_ n3_ n4_
                clear ho hb hg hat
                refine hK.out _ _ ?_
                clear hK K
                refine norm_ (a' := ?_) ?_ ?_
                rotate_left
                · show Act.put _ (some 55) _ = _
                  simp only [Act.put, List.setIfInBounds_toArray, List.set_cons_zero, List.set_cons_succ, i64_w, i32_w]
                  rfl
                refine pure_ (i := 18) (N := some 4) #[true, true, true, true, true, true, true, true, true, true, true, true, true, true, true, true, true, true, true] rfl rfl (any_of HT_.out (by kernel_rfl)) (fun _ _ _ h => h) (Or.inl ⟨by rfl, pA_⟩) pB_ ?_
                refine done_ (done_of HT_.out (by kernel_rfl)) ?_
                try go_wp2
                go_roundg k1
                case measure => have := HK1.out; omega
                case rel => exact ⟨(y195), (wrap64 (x5_1 + 1)), (t192), qq23, H', ⟨by have := HK1.out; omega⟩, ⟨qq35 HO_3.out⟩, ⟨qq4 HO197.out⟩, ⟨qq6 HI0.out⟩, ⟨qq3⟩, ⟨qq5 HB.out HI0.out⟩⟩
              · rw [if_neg c19] at H
                exact absurd H (by simp)
            · rw [if_neg c18] at H
              exact absurd H (by simp)
          · rw [if_neg c16] at H
            have c16b0 : (t189 == 0) = false := beq_eq_false_iff_ne.mpr c16
            have c16b1 : (t189 != 0) = true := bne_iff_ne.mpr c16
            have H' := Aside0.mk H
            clear H
            obtain ⟨Ao25, co25, eo25⟩ := Kd.R_slice HO_3.out
            subst eo25
            go_wp2_with (first | (go_at_call 48; (with_reducible refine (spec_l6Rd_pick.calls k1 g s0_0 x1001_1 3 t189 t190 w0 _ ?side1 ?side2 A15.out).mono ?_); (case side1 => exact qq6 HI0.out); (case side2 => exact qq5 HB.out HI0.out); rintro e w26 ⟨rfl, hi, hb, hk⟩; have n0_ := Aside0.mk (Kd.R_mono (Kd.R_keep (IsS81.apart (show IsS81 w0 _ g s0_0 x1001_1 from by repeat (first | (with_reducible first | exact HI0.out | apply IsS81.alloc | apply IsS81.drewN | apply IsS81.drew | apply IsS81.set_1) | exact HI0.out)) (qq4 HO_3.out) (by decide)) hk (fun _ h => h.2)) (fun _ h => h.1)); have n1_ := Aside0.mk (Kd.R_mono (Kd.R_keep (IsS81.apart (show IsS81 w0 _ g s0_0 x1001_1 from by repeat (first | (with_reducible first | exact HI0.out | apply IsS81.alloc | apply IsS81.drewN | apply IsS81.drew | apply IsS81.set_1) | exact HI0.out)) (qq4 HO_4.out) (by decide)) hk (fun _ h => h.2)) (fun _ h => h.1)); have n2_ := Aside0.mk (KeepBut.trans qq3 hk (.inl rfl)); have n3_ := Aside0.mk (hb); have n4_ := Aside0.mk (hi); clear HO_3; clear HO_4; clear HK; clear HB; clear HI0; have HO_3 := n0_; have HO_4 := n1_; have HK := n2_; have HB := n3_; have HI0 := n4_; clear n0_ n1_ n2_ n3_ n4_; (try clear hb); (try clear hb2); (try clear hk); (try clear hi)))
            go_roundg k1
            case measure => have := HK1.out; omega
            case rel => exact ⟨(x4_1), (wrap64 (x5_1 + 1)), (t190), qq23, H', ⟨by have := HK1.out; omega⟩, ⟨qq4 HO_3.out⟩, ⟨qq4 HO_4.out⟩, ⟨qq6 HI0.out⟩, ⟨qq3⟩, ⟨qq5 HB.out HI0.out⟩⟩
      · rw [if_neg c6] at H
        have c6b0 : decide (x5_1 < (y176.length : Int)) = false := decide_eq_false c6
        clear c6
        simp only [Option.some.injEq, Prod.mk.injEq] at H
        obtain ⟨rfl, rfl⟩ := H
        obtain ⟨Ao27, co27, eo27⟩ := Kd.R_slice HO_3.out
        subst eo27
        go_wp2
        go_ret
        exact ⟨_, qq11, qq63 HO_4.out, qq6 HI0.out, qq5 HB.out HI0.out, qq3⟩

end Go.Proofs.Ytgdhgncdpmalcaa.Q
namespace Go.Proofs.Ytgdhgncdpmalcaa.Q
open Go.RowKit Go.Proofs.YtgdhgncdpmalcaaW.PrintWords Go.Proofs.YtgdhgncdpmalcaaW.PrintLast Go.Proofs.YtgdhgncdpmalcaaW.PrintMore
attribute [local go_sem] max2_int min2_int max_two min_two max_three min_three max_four min_four
set_option linter.unusedVariables false
set_option linter.unusedSimpArgs false

/-! ### spec_PolyBack: function 73 -/
def spec_PolyBack.l0 : Nat → List (S32) → List (S32) → Int → Option ((List (S32)) × Bool)
  | 0, _, _, _ => none
  | k + 1, x0, x4, x5 => if x5 > 0 then (if 0 ≤ x5 then (if x5 < (x0.length : Int) then (if x4.length < 8796093022208 then (spec_PolyBack.l0 k x0 (x4 ++ [(⟨(rd_T32 x0 x5).f0, (rd_T32 x0 x5).f1⟩ : S32)]) (wrap64 (x5 - 1))) else (none)) else (none)) else (none)) else (some (x4, true))
def spec_PolyBack.f (k : Nat) (l0 : List (S32)) : Option ((List (S32)) × Bool) := (spec_l31Points.f k l0).bind fun t204 => (if t204 = true then (if 0 < (l0.length : Int) then (spec_PolyBack.l0 k l0 (([(⟨(rd_T32 l0 0).f0, (rd_T32 l0 0).f1⟩ : S32)] : List (S32))) (wrap64 ((l0.length : Int) - 1))) else (none)) else (some ((([] : List (S32))), false)))
set_option maxHeartbeats 8000000 in
set_option maxRecDepth 100000 in
theorem spec_PolyBack.calls (k : Nat) (A0 : Option Addr) (c0 : Nat) (l0 : List (S32)) (r1 : List (S32)) (r2 : Bool) (w : World) (hr0 : Kd.C k32 w A0 l0.length l0) (hc0 : l0.length ≤ c0) (h : spec_PolyBack.f k l0 = some (r1, r2)) :
    Calls Try.prog 73 #[.slice A0 l0.length c0] w fun e w' => ∃ v0_ : Value, e = .returned (.tuple #[v0_, .bool r2]) ∧ Kd.R k32 32 w' w.heap.size (fun _ => True) v0_ r1 ∧ Below w.heap.size w w' := by
  have hu32 := Try.underlying32
  have HR0 := Aside0.mk hr0
  have HC0 := Aside0.mk hc0
  clear hr0 hc0
  have HB := Aside0.mk (Below.refl w.heap.size w)
  have H : ((spec_l31Points.f k l0).bind fun t204 => (if t204 = true then (if 0 < (l0.length : Int) then (spec_PolyBack.l0 k l0 (([(⟨(rd_T32 l0 0).f0, (rd_T32 l0 0).f1⟩ : S32)] : List (S32))) (wrap64 ((l0.length : Int) - 1))) else (none)) else (some ((([] : List (S32))), false)))) = some (r1, r2) := h
  clear h
  replace H := Option.bind_eq_some_iff.mp H
  obtain ⟨t204, A20, H⟩ := H
  replace H : (if t204 = true then (if 0 < (l0.length : Int) then (spec_PolyBack.l0 k l0 (([(⟨(rd_T32 l0 0).f0, (rd_T32 l0 0).f1⟩ : S32)] : List (S32))) (wrap64 ((l0.length : Int) - 1))) else (none)) else (some ((([] : List (S32))), false))) = some (r1, r2) := H
  have A2 := Aside0.mk A20
  clear A20
  by_cases c3 : t204 = true
  · subst c3
    have H1 : (if 0 < (l0.length : Int) then (spec_PolyBack.l0 k l0 (([(⟨(rd_T32 l0 0).f0, (rd_T32 l0 0).f1⟩ : S32)] : List (S32))) (wrap64 ((l0.length : Int) - 1))) else (none)) = some (r1, r2) := by rw [if_pos rfl] at H; exact H
    clear H
    have H := H1
    clear H1
    by_cases c4 : 0 < (l0.length : Int)
    · rw [if_pos c4] at H
      have c4b0 : decide (0 < (l0.length : Int)) = true := decide_eq_true c4
      have c4b1 : decide (0 < l0.length) = true := decide_eq_true (by omega)
      clear c4
      obtain ⟨y209, hy209⟩ : ∃ y_ : List (S32), y_ = (([(⟨(rd_T32 l0 0).f0, (rd_T32 l0 0).f1⟩ : S32)] : List (S32))) := ⟨_, rfl⟩
      replace H : (spec_PolyBack.l0 k l0 y209 (wrap64 ((l0.length : Int) - 1))) = some (r1, r2) := by first | (rw [hy209]; with_reducible exact H) | (have H2_ := (Option.bind_some _ _).symm.trans H; rw [hy209]; with_reducible exact H2_) | (have H2_ := (Option.bind_some _ _).symm.trans H; with_reducible exact H2_) | with_reducible exact H | (rw [hy209]; exact H) | exact H
      have Ny209 := Aside0.mk hy209
      clear hy209
      have H' := Aside0.mk H
      clear H
      go_enter Try.func73, Try.ntmps73
      go_wp2_with (first | ((with_reducible refine gate_callee (f := 45) rfl ?_); refine goesL_ (some 7) rfl rfl Try.func45 (by kernel_rfl) rfl #[.slice A0 l0.length c0] rfl qq2 ?_; (with_reducible refine (spec_l31Points.calls k _ _ l0 true _ ?side1 ?side2 A2.out).mono ?_); (case side1 => exact qq45); (case side2 => exact HC0.out); rintro e w5 ⟨rfl, hb⟩; refine ⟨_, rfl, ?_⟩; have n0_ := Aside0.mk (below_step qq1 hb); clear HB; have HB := n0_; clear n0_; (try clear hb); (try clear hb2); (try clear hk); (try clear hi); have p208 : 0 ≤ (0 : Int) := (by omega); have q208 : 0 < (l0.length : Int) := of_decide_eq_true qq18; obtain ⟨ad208, e208, hx208_0, hx208_1⟩ := at_T32 HR0.out 0 p208 q208; cases e208; have qi208 : (0 < l0.length) = True := eq_true (by omega); (try rw [show ((0 : Int)).toNat = 0 from rfl] at hx208_0); (try rw [show 0 * 2 = 0 from rfl] at hx208_0); (try rw [Addr.add_zero'] at hx208_0); (try rw [show ((0 : Int)).toNat = 0 from rfl] at hx208_1); (try rw [show 0 * 2 = 0 from rfl] at hx208_1); (try rw [Addr.add_zero'] at hx208_1); replace hx208_0 := (HB.out.cell (World.block_lt_of_cell? w _ hx208_0)).trans hx208_0; replace hx208_1 := (HB.out.cell (World.block_lt_of_cell? w _ hx208_1)).trans hx208_1; replace p208 := eq_true p208; replace q208 := eq_true q208) | ((with_reducible refine gate_dst (N := 13) rfl ?_); refine Kd.R_lit k32 _ 32 ?hg (N := 13) ?hd (xs := ([(⟨(rd_T32 l0 0).f0, (rd_T32 l0 0).f1⟩ : S32)] : List (S32))) (inner := [.int .i64 ((rd_T32 l0 0).f0), .int .i64 ((rd_T32 l0 0).f1)]) (ok := fun _ => True) (okp := fun _ => True) ?hr ?hp (fun _ hk => hk) trivial (Below.refl _ _) (Nat.le_refl _) (by simp) ?_; (case hd => rfl); (case hg => rfl); (case hr => exact qq21); (case hp => exact (Reps.c2 (show Kd.M k32 _ _ _ (⟨(rd_T32 l0 0).f0, (rd_T32 l0 0).f1⟩ : S32) [.int .i64 ((rd_T32 l0 0).f0), .int .i64 ((rd_T32 l0 0).f1)] from (k32_mkM _ _ _ (⟨(rd_T32 l0 0).f0, (rd_T32 l0 0).f1⟩ : S32) )) (Reps.none _ _))); intro v210 w6 ho7 hb hg_ hnew_; clear hg_ hnew_; (first | rw [← Ny209.out] at ho7 | (simp only [Int.reduceToNat] at ho7; rw [← Ny209.out] at ho7)); have n0_ := Aside0.mk (Kd.R_lower ho7 (below_size qq1)); have n1_ := Aside0.mk (below_step qq1 hb); clear HB; have HO211 := n0_; have HB := n1_; clear n0_ n1_; clear hb ho7))
      go_loopg [4, 5] k (fun kq v4 v5 w' => ∃ (x4_1 : List (S32)) (x5_1 : Int), v5 = .int .i64 x5_1 ∧ Aside0 (spec_PolyBack.l0 kq l0 x4_1 x5_1 = some (r1, r2)) ∧ Aside0 (kq ≤ k) ∧ Aside0 (Kd.R k32 32 w' w.heap.size (fun _ => True) v4 x4_1) ∧ Aside0 (Below w.heap.size w w'))
      case atStart => exact ⟨(y209), (wrap64 ((l0.length : Int) - 1)), qq23, H', ⟨Nat.le_refl _⟩, ⟨qq4 HO211.out⟩, ⟨qq1⟩⟩
      case round =>
        clear H'
        try clear c2
        try clear p2
        try clear q2
        try clear hx2
        try clear qi2
        try clear c3
        try clear c4
        try clear c4b0
        try clear c4b1
        try clear p6
        try clear c7
        try clear hx208_0
        try clear hx208_1
        try clear p208
        try clear q208
        obtain ⟨x4_1, x5_1, rfl, HA, HK1, HO_4, HB⟩ := hrel
        cases gk with
        | zero => exact absurd HA.out (by simp [spec_PolyBack.l0])
        | succ k1 =>
          have H := HA.out
          clear HA
          simp only [spec_PolyBack.l0] at H
          by_cases c8 : x5_1 > 0
          · rw [if_pos c8] at H
            have c8b0 : decide (0 < x5_1) = true := decide_eq_true c8
            clear c8
            by_cases c9 : 0 ≤ x5_1
            · rw [if_pos c9] at H
              have c9b0 : decide (0 ≤ x5_1) = true := decide_eq_true c9
              clear c9
              by_cases c10 : x5_1 < (l0.length : Int)
              · rw [if_pos c10] at H
                have c10b0 : decide (x5_1 < (l0.length : Int)) = true := decide_eq_true c10
                clear c10
                by_cases c11 : x4_1.length < 8796093022208
                · rw [if_pos c11] at H
                  have LMc11 := Aside0.mk c11
                  clear c11
                  obtain ⟨y213, hy213⟩ : ∃ y_ : List (S32), y_ = (x4_1 ++ [(⟨(rd_T32 l0 x5_1).f0, (rd_T32 l0 x5_1).f1⟩ : S32)]) := ⟨_, rfl⟩
                  replace H : (spec_PolyBack.l0 k1 l0 y213 (wrap64 (x5_1 - 1))) = some (r1, r2) := by first | (rw [hy213]; with_reducible exact H) | (have H2_ := (Option.bind_some _ _).symm.trans H; rw [hy213]; with_reducible exact H2_) | (have H2_ := (Option.bind_some _ _).symm.trans H; with_reducible exact H2_) | with_reducible exact H | (rw [hy213]; exact H) | exact H
                  have Ny213 := Aside0.mk hy213
                  clear hy213
                  have H' := Aside0.mk H
                  clear H
                  have p212 : 0 ≤ (x5_1 : Int) := of_decide_eq_true qq18
                  have q212 : x5_1 < (l0.length : Int) := of_decide_eq_true qq18
                  obtain ⟨ad212, e212, hx212_0, hx212_1⟩ := at_T32 HR0.out x5_1 p212 q212
                  obtain rfl : ad208 = ad212 := (by injection e212)
                  replace hx212_0 := (HB.out.cell (World.block_lt_of_cell? w _ hx212_0)).trans hx212_0
                  replace hx212_1 := (HB.out.cell (World.block_lt_of_cell? w _ hx212_1)).trans hx212_1
                  replace p212 := eq_true p212
                  replace q212 := eq_true q212
                  go_wp2_with (first | ((with_reducible refine gate_builtin (b := .append) (xs := #[.tmp 21, .tmp 26]) rfl ?_); at_builtin; refine Kd.R_append k32 (w0 := w) w.heap.size rfl (.tmp 21) (.tmp 26) 23 32 (.agg #[(.int .i64 0), (.int .i64 0)]) 16 rfl Try.underlying23 info32 rfl (by decide) (by omega) u4 x4_1 (⟨(rd_T32 l0 x5_1).f0, (rd_T32 l0 x5_1).f1⟩ : S32) [.int .i64 ((rd_T32 l0 x5_1).f0), .int .i64 ((rd_T32 l0 x5_1).f1)] (fun _ => True) (fun _ => False) rfl rfl ?aP (fun _ hk => hk.elim) ?aF ?aO ?aB ?aS ?aL ?_; (case aP => exact k32_mkM _ _ _ (⟨(rd_T32 l0 x5_1).f0, (rd_T32 l0 x5_1).f1⟩ : S32)); (case aB => exact qq1); (case aF => exact qq81); (case aO => exact (qq4 HO_4.out)); (case aS => exact (below_size qq1)); (case aL => have := LMc11.out; omega); intro v214 w12 ho hb hg hat; rw [← Ny213.out] at ho; have n0_ := Aside0.mk (hb); have n1_ := Aside0.mk (ho); clear HB; clear HO_4; have HB := n0_; have HO215 := n1_; clear n0_ n1_; clear ho hb hg hat))
                  go_roundg k1
                  case measure => have := HK1.out; omega
                  case rel => exact ⟨(y213), (wrap64 (x5_1 - 1)), qq23, H', ⟨by have := HK1.out; omega⟩, ⟨qq4 HO215.out⟩, ⟨qq1⟩⟩
                · rw [if_neg c11] at H
                  exact absurd H (by simp)
              · rw [if_neg c10] at H
                exact absurd H (by simp)
            · rw [if_neg c9] at H
              exact absurd H (by simp)
          · rw [if_neg c8] at H
            have c8b0 : decide (0 < x5_1) = false := decide_eq_false c8
            clear c8
            simp only [Option.some.injEq, Prod.mk.injEq] at H
            obtain ⟨rfl, rfl⟩ := H
            go_wp2
            go_ret2
            exact ⟨_, qq11, qq4 HO_4.out, qq1⟩
    · rw [if_neg c4] at H
      exact absurd H (by simp)
  · replace c3 := Bool.eq_false_iff.mpr c3
    subst c3
    have H1 : (some ((([] : List (S32))), false)) = some (r1, r2) := by rw [if_neg (show ¬ (false = true) by decide)] at H; exact H
    clear H
    have H := H1
    clear H1
    obtain ⟨y205, hy205⟩ : ∃ y_ : List (S32), y_ = (([] : List (S32))) := ⟨_, rfl⟩
    replace H : (some (y205, false)) = some (r1, r2) := by first | (rw [hy205]; with_reducible exact H) | (have H2_ := (Option.bind_some _ _).symm.trans H; rw [hy205]; with_reducible exact H2_) | (have H2_ := (Option.bind_some _ _).symm.trans H; with_reducible exact H2_) | with_reducible exact H | (rw [hy205]; exact H) | exact H
    have Ny205 := Aside0.mk hy205
    clear hy205
    simp only [Option.some.injEq, Prod.mk.injEq] at H
    obtain ⟨rfl, rfl⟩ := H
    go_enter Try.func73, Try.ntmps73
    go_wp2_with (first | ((with_reducible refine gate_callee (f := 45) rfl ?_); refine goesL_ (some 7) rfl rfl Try.func45 (by kernel_rfl) rfl #[.slice A0 l0.length c0] rfl qq2 ?_; (with_reducible refine (spec_l31Points.calls k _ _ l0 false _ ?side1 ?side2 A2.out).mono ?_); (case side1 => exact qq45); (case side2 => exact HC0.out); rintro e w13 ⟨rfl, hb⟩; refine ⟨_, rfl, ?_⟩; have n0_ := Aside0.mk (below_step qq1 hb); clear HB; have HB := n0_; clear n0_; (try clear hb); (try clear hb2); (try clear hk); (try clear hi)) | ((with_reducible refine gate_dst (N := 9) rfl ?_); refine Kd.R_lit k32 _ 32 ?hg (N := 9) ?hd (xs := ([] : List (S32))) (inner := []) (ok := fun _ => True) (okp := fun _ => True) ?hr ?hp (fun _ hk => hk) trivial (Below.refl _ _) (Nat.le_refl _) (by simp) ?_; (case hd => rfl); (case hg => rfl); (case hr => exact qq21); (case hp => exact (Reps.none _ _)); intro v206 w14 ho15 hb hg_ hnew_; clear hg_ hnew_; (first | rw [← Ny205.out] at ho15 | (simp only [Int.reduceToNat] at ho15; rw [← Ny205.out] at ho15)); have n0_ := Aside0.mk (Kd.R_lower ho15 (below_size qq1)); have n1_ := Aside0.mk (below_step qq1 hb); clear HB; have HO207 := n0_; have HB := n1_; clear n0_ n1_; clear hb ho15))
    go_ret2
    exact ⟨_, qq11, qq4 HO207.out, qq1⟩

end Go.Proofs.Ytgdhgncdpmalcaa.Q
namespace Go.Proofs.Ytgdhgncdpmalcaa.Q
open Go.RowKit Go.Proofs.YtgdhgncdpmalcaaW.PrintWords Go.Proofs.YtgdhgncdpmalcaaW.PrintLast Go.Proofs.YtgdhgncdpmalcaaW.PrintMore
attribute [local go_sem] max2_int min2_int max_two min_two max_three min_three max_four min_four
set_option linter.unusedVariables false
set_option linter.unusedSimpArgs false

/-! ### spec_l92Poly: function 41 -/
def spec_l92Poly.l0 : Nat → List (S32) → Int → Int → List Int → Int → Option ((List (S32)) × Int)
  | 0, _, _, _, _, _ => none
  | k + 1, x3, x4, x5, x1000, x1001 => if x5 < x4 then ((spec_l91Point.f k x1000 x1001).bind fun bt223 => (if x3.length < 8796093022208 then (spec_l92Poly.l0 k (x3 ++ [(⟨bt223.1, bt223.2.1⟩ : S32)]) x4 (wrap64 (x5 + 1)) x1000 bt223.2.2) else (none))) else (some (x3, x1001))
def spec_l92Poly.f (k : Nat) (s0_0 : List Int) (s0_1 : Int) : Option ((List (S32)) × Int) := (spec_l6Rd_pick.f k s0_0 s0_1 8).bind fun bt216 => (if bt216.1 = 0 then ((spec_l6Rd_pick.f k s0_0 bt216.2 6).bind fun bt221 => (spec_l92Poly.l0 k (([] : List (S32))) bt221.1 0 s0_0 bt221.2)) else (if bt216.1 = 1 then ((spec_l92Box.f k s0_0 bt216.2).bind fun bt229 => (some (bt229.1, bt229.2))) else (if bt216.1 = 2 then ((spec_l92Box.f k s0_0 bt216.2).bind fun bt233 => (some (bt233.1, bt233.2))) else (if bt216.1 = 3 then ((spec_l92Box.f k s0_0 bt216.2).bind fun bt237 => (some (bt237.1, bt237.2))) else ((spec_l92Star.f k s0_0 bt216.2).bind fun bt241 => ((spec_l6Rd_pick.f k s0_0 bt241.2 5).bind fun bt245 => (if bt245.1 = 0 then ((spec_PolyBack.f k bt241.1).bind fun bt247 => (some (bt247.1, bt245.2))) else (some (bt241.1, bt245.2)))))))))
set_option maxHeartbeats 8000000 in
set_option maxRecDepth 100000 in
theorem spec_l92Poly.calls (k : Nat) (g : Nat) (s0_0 : List Int) (s0_1 : Int) (r1 : List (S32)) (r2 : Int) (w0 w : World) (hI : IsS81 w0 w g s0_0 s0_1) (hB : Below w0.heap.size w0 w) (h : spec_l92Poly.f k s0_0 s0_1 = some (r1, r2)) :
    Calls Try.prog 41 #[.pointer (some ⟨g, 0, none⟩)] w fun e w' => ∃ v0_ : Value, e = .returned (v0_) ∧ Kd.Q k32 32 w' w.heap.size (fun _ => True) v0_ r1 ∧ IsS81 w0 w' g s0_0 r2 ∧ Below w0.heap.size w0 w' ∧ KeepBut w w' g none := by
  have HI0 := Aside0.mk hI
  have HK := Aside0.mk (KeepBut.refl w g none)
  have HL := Aside0.mk hB.size
  clear hI
  have HW0 := Aside0.mk hB.size
  have HB := Aside0.mk hB
  clear hB
  have H : ((spec_l6Rd_pick.f k s0_0 s0_1 8).bind fun bt216 => (if bt216.1 = 0 then ((spec_l6Rd_pick.f k s0_0 bt216.2 6).bind fun bt221 => (spec_l92Poly.l0 k (([] : List (S32))) bt221.1 0 s0_0 bt221.2)) else (if bt216.1 = 1 then ((spec_l92Box.f k s0_0 bt216.2).bind fun bt229 => (some (bt229.1, bt229.2))) else (if bt216.1 = 2 then ((spec_l92Box.f k s0_0 bt216.2).bind fun bt233 => (some (bt233.1, bt233.2))) else (if bt216.1 = 3 then ((spec_l92Box.f k s0_0 bt216.2).bind fun bt237 => (some (bt237.1, bt237.2))) else ((spec_l92Star.f k s0_0 bt216.2).bind fun bt241 => ((spec_l6Rd_pick.f k s0_0 bt241.2 5).bind fun bt245 => (if bt245.1 = 0 then ((spec_PolyBack.f k bt241.1).bind fun bt247 => (some (bt247.1, bt245.2))) else (some (bt241.1, bt245.2)))))))))) = some (r1, r2) := h
  clear h
  replace H := Option.bind_eq_some_iff.mp H
  obtain ⟨⟨t216, t217⟩, A20, H⟩ := H
  replace H : (if t216 = 0 then ((spec_l6Rd_pick.f k s0_0 t217 6).bind fun bt221 => (spec_l92Poly.l0 k (([] : List (S32))) bt221.1 0 s0_0 bt221.2)) else (if t216 = 1 then ((spec_l92Box.f k s0_0 t217).bind fun bt229 => (some (bt229.1, bt229.2))) else (if t216 = 2 then ((spec_l92Box.f k s0_0 t217).bind fun bt233 => (some (bt233.1, bt233.2))) else (if t216 = 3 then ((spec_l92Box.f k s0_0 t217).bind fun bt237 => (some (bt237.1, bt237.2))) else ((spec_l92Star.f k s0_0 t217).bind fun bt241 => ((spec_l6Rd_pick.f k s0_0 bt241.2 5).bind fun bt245 => (if bt245.1 = 0 then ((spec_PolyBack.f k bt241.1).bind fun bt247 => (some (bt247.1, bt245.2))) else (some (bt241.1, bt245.2))))))))) = some (r1, r2) := H
  have A2 := Aside0.mk A20
  clear A20
  by_cases c3 : t216 = 0
  · rw [if_pos c3] at H
    have c3b0 : (t216 == 0) = true := beq_iff_eq.mpr c3
    have c3b1 : (t216 != 0) = false := bne_eq_false_iff_eq.mpr c3
    clear c3
    obtain ⟨y218, hy218⟩ : ∃ y_ : List (S32), y_ = (([] : List (S32))) := ⟨_, rfl⟩
    replace H : ((spec_l6Rd_pick.f k s0_0 t217 6).bind fun bt221 => (spec_l92Poly.l0 k y218 bt221.1 0 s0_0 bt221.2)) = some (r1, r2) := by first | (rw [hy218]; with_reducible exact H) | (have H2_ := (Option.bind_some _ _).symm.trans H; rw [hy218]; with_reducible exact H2_) | (have H2_ := (Option.bind_some _ _).symm.trans H; with_reducible exact H2_) | with_reducible exact H | (rw [hy218]; exact H) | exact H
    have Ny218 := Aside0.mk hy218
    clear hy218
    replace H := Option.bind_eq_some_iff.mp H
    obtain ⟨⟨t221, t222⟩, A40, H⟩ := H
    replace H : (spec_l92Poly.l0 k y218 t221 0 s0_0 t222) = some (r1, r2) := H
    have A4 := Aside0.mk A40
    clear A40
    have H' := Aside0.mk H
    clear H
    go_enter Try.func41, Try.ntmps41
    go_wp2_with (first | ((with_reducible refine gate_callee (f := 48) rfl ?_); refine goesL_ (some 10) rfl rfl Try.func48 (by kernel_rfl) rfl #[.pointer (some ⟨g, 0, none⟩), .int .i64 8] rfl qq2 ?_; (with_reducible refine (spec_l6Rd_pick.calls k g s0_0 s0_1 8 t216 t217 w0 _ ?side1 ?side2 A2.out).mono ?_); (case side1 => exact qq6 HI0.out); (case side2 => exact qq5 HB.out HI0.out); rintro e w5 ⟨rfl, hi, hb, hk⟩; refine ⟨_, rfl, ?_⟩; have n0_ := Aside0.mk (KeepBut.trans qq3 hk (.inl rfl)); have n1_ := Aside0.mk (hb); have n2_ := Aside0.mk (hi); clear HK; clear HB; clear HI0; have HK := n0_; have HB := n1_; have HI0 := n2_; clear n0_ n1_ n2_; (try clear hb); (try clear hb2); (try clear hk); (try clear hi)) | ((with_reducible refine gate_dst (N := 13) rfl ?_); refine Kd.R_lit k32 _ 32 ?hg (N := 13) ?hd (xs := ([] : List (S32))) (inner := []) (ok := fun _ => True) (okp := fun _ => True) ?hr ?hp (fun _ hk => hk) trivial (Below.refl _ _) (Nat.le_refl _) (by simp) ?_; (case hd => rfl); (case hg => rfl); (case hr => exact qq21); (case hp => exact (Reps.none _ _)); intro v219 w6 ho7 hb hg_ hnew_; clear hg_ hnew_; (first | rw [← Ny218.out] at ho7 | (simp only [Int.reduceToNat] at ho7; rw [← Ny218.out] at ho7)); have n0_ := Aside0.mk (Kd.R_lower ho7 (keep_size (w := w) (g := g) (row := none) qq3)); have n1_ := Aside0.mk (IsS81.below (qq6 HI0.out) hb); have n2_ := Aside0.mk (KeepBut.trans qq3 (KeepBut.of_below hb g none) (.inl rfl)); have n3_ := Aside0.mk (below_step (qq5 HB.out HI0.out) hb); clear HI0; clear HK; clear HB; have HO220 := n0_; have HI0 := n1_; have HK := n2_; have HB := n3_; clear n0_ n1_ n2_ n3_; clear hb ho7) | ((with_reducible refine gate_callee (f := 48) rfl ?_); refine goesL_ (some 15) rfl rfl Try.func48 (by kernel_rfl) rfl #[.pointer (some ⟨g, 0, none⟩), .int .i64 6] rfl qq2 ?_; (with_reducible refine (spec_l6Rd_pick.calls k g s0_0 t217 6 t221 t222 w0 _ ?side1 ?side2 A4.out).mono ?_); (case side1 => exact qq6 HI0.out); (case side2 => exact qq5 HB.out HI0.out); rintro e w8 ⟨rfl, hi, hb, hk⟩; refine ⟨_, rfl, ?_⟩; have n0_ := Aside0.mk (Kd.R_mono (Kd.R_keep (IsS81.apart (show IsS81 w0 _ g s0_0 t217 from by repeat (first | (with_reducible first | exact HI0.out | apply IsS81.alloc | apply IsS81.drewN | apply IsS81.drew | apply IsS81.set_1) | exact HI0.out)) (qq4 HO220.out) (by decide)) hk (fun _ h => h.2)) (fun _ h => h.1)); have n1_ := Aside0.mk (KeepBut.trans qq3 hk (.inl rfl)); have n2_ := Aside0.mk (hb); have n3_ := Aside0.mk (hi); clear HO220; clear HK; clear HB; clear HI0; have HO220 := n0_; have HK := n1_; have HB := n2_; have HI0 := n3_; clear n0_ n1_ n2_ n3_; (try clear hb); (try clear hb2); (try clear hk); (try clear hi)))
    go_loopg [3, 5] k (fun kq v3 v5 w' => ∃ (x3_1 : List (S32)) (x5_1 : Int) (x1001_1 : Int), v5 = .int .i64 x5_1 ∧ Aside0 (spec_l92Poly.l0 kq x3_1 t221 x5_1 s0_0 x1001_1 = some (r1, r2)) ∧ Aside0 (kq ≤ k) ∧ Aside0 (Kd.R k32 32 w' w.heap.size (fun _ => True) v3 x3_1) ∧ Aside0 (IsS81 w0 w' g s0_0 x1001_1) ∧ Aside0 (KeepBut w w' g none) ∧ Aside0 (Below w0.heap.size w0 w'))
    case atStart => exact ⟨(y218), (0), (t222), qq23, H', ⟨Nat.le_refl _⟩, ⟨qq4 HO220.out⟩, ⟨qq6 HI0.out⟩, ⟨qq3⟩, ⟨qq5 HB.out HI0.out⟩⟩
    case round =>
      clear H'
      try clear p2
      try clear c3
      try clear c3b0
      try clear c3b1
      try clear c4
      obtain ⟨x3_1, x5_1, x1001_1, rfl, HA, HK1, HO_3, HI0, HK, HB⟩ := hrel
      cases gk with
      | zero => exact absurd HA.out (by simp [spec_l92Poly.l0])
      | succ k1 =>
        have H := HA.out
        clear HA
        simp only [spec_l92Poly.l0] at H
        by_cases c9 : x5_1 < t221
        · rw [if_pos c9] at H
          have c9b0 : decide (x5_1 < t221) = true := decide_eq_true c9
          clear c9
          replace H := Option.bind_eq_some_iff.mp H
          obtain ⟨⟨t223, t224, t225⟩, A100, H⟩ := H
          replace H : (if x3_1.length < 8796093022208 then (spec_l92Poly.l0 k1 (x3_1 ++ [(⟨t223, t224⟩ : S32)]) t221 (wrap64 (x5_1 + 1)) s0_0 t225) else (none)) = some (r1, r2) := H
          have A10 := Aside0.mk A100
          clear A100
          by_cases c11 : x3_1.length < 8796093022208
          · rw [if_pos c11] at H
            have LMc11 := Aside0.mk c11
            clear c11
            obtain ⟨y226, hy226⟩ : ∃ y_ : List (S32), y_ = (x3_1 ++ [(⟨t223, t224⟩ : S32)]) := ⟨_, rfl⟩
            replace H : (spec_l92Poly.l0 k1 y226 t221 (wrap64 (x5_1 + 1)) s0_0 t225) = some (r1, r2) := by first | (rw [hy226]; with_reducible exact H) | (have H2_ := (Option.bind_some _ _).symm.trans H; rw [hy226]; with_reducible exact H2_) | (have H2_ := (Option.bind_some _ _).symm.trans H; with_reducible exact H2_) | with_reducible exact H | (rw [hy226]; exact H) | exact H
            have Ny226 := Aside0.mk hy226
            clear hy226
            have H' := Aside0.mk H
            clear H
            go_wp2_with (first | ((with_reducible refine gate_callee (f := 55) rfl ?_); refine goesL_ (some 23) rfl rfl Try.func55 (by kernel_rfl) rfl #[.pointer (some ⟨g, 0, none⟩)] rfl qq2 ?_; (with_reducible refine (spec_l91Point.calls k1 g s0_0 x1001_1 t223 t224 t225 w0 _ ?side1 ?side2 A10.out).mono ?_); (case side1 => exact qq6 HI0.out); (case side2 => exact qq5 HB.out HI0.out); rintro e w12 ⟨rfl, hi, hb, hk⟩; refine ⟨_, rfl, ?_⟩; have n0_ := Aside0.mk (Kd.R_mono (Kd.R_keep (IsS81.apart (show IsS81 w0 _ g s0_0 x1001_1 from by repeat (first | (with_reducible first | exact HI0.out | apply IsS81.alloc | apply IsS81.drewN | apply IsS81.drew | apply IsS81.set_1) | exact HI0.out)) (qq4 HO_3.out) (by decide)) hk (fun _ h => h.2)) (fun _ h => h.1)); have n1_ := Aside0.mk (KeepBut.trans qq3 hk (.inl rfl)); have n2_ := Aside0.mk (hb); have n3_ := Aside0.mk (hi); clear HO_3; clear HK; clear HB; clear HI0; have HO_3 := n0_; have HK := n1_; have HB := n2_; have HI0 := n3_; clear n0_ n1_ n2_ n3_; (try clear hb); (try clear hb2); (try clear hk); (try clear hi)) | ((with_reducible refine gate_builtin (b := .append) (xs := #[.tmp 21, .tmp 24]) rfl ?_); at_builtin; refine Kd.R_append k32 w.heap.size rfl (.tmp 21) (.tmp 24) 23 32 (.agg #[(.int .i64 0), (.int .i64 0)]) 16 rfl Try.underlying23 info32 rfl (by decide) (by omega) u3 x3_1 (⟨t223, t224⟩ : S32) [.int .i64 t223, .int .i64 t224] (fun _ => True) (fun _ => False) rfl rfl ?aP (fun _ hk => hk.elim) ?aF ?aO (Below.refl _ _) ?aS ?aL ?_; (case aP => exact k32_mkM _ _ _ (⟨t223, t224⟩ : S32)); (case aF => exact qq81); (case aO => exact (qq4 HO_3.out)); (case aS => exact qq70); (case aL => have := LMc11.out; omega); intro v227 w13 ho hb hg hat; rw [← Ny226.out] at ho; have n0_ := Aside0.mk (IsS81.grown (qq6 HI0.out) hg (IsS81.own_ne HI0.out HO_3.out (by decide))); have n1_ := Aside0.mk (below_weaken (qq5 HB.out HI0.out) HL.out hb); have n2_ := Aside0.mk (KeepBut.trans qq3 (KeepBut.of_grown hg g) (Kd.R_base2 HO_3.out)); have n3_ := Aside0.mk (ho); clear HI0; clear HB; clear HK; clear HO_3; have HI0 := n0_; have HB := n1_; have HK := n2_; have HO228 := n3_; clear n0_ n1_ n2_ n3_; clear ho hb hg hat))
            go_roundg k1
            case measure => have := HK1.out; omega
            case rel => exact ⟨(y226), (wrap64 (x5_1 + 1)), (t225), qq23, H', ⟨by have := HK1.out; omega⟩, ⟨qq4 HO228.out⟩, ⟨qq6 HI0.out⟩, ⟨qq3⟩, ⟨qq5 HB.out HI0.out⟩⟩
          · rw [if_neg c11] at H
            exact absurd H (by simp)
        · rw [if_neg c9] at H
          have c9b0 : decide (x5_1 < t221) = false := decide_eq_false c9
          clear c9
          simp only [Option.some.injEq, Prod.mk.injEq] at H
          obtain ⟨rfl, rfl⟩ := H
          go_wp2
          go_ret
          exact ⟨_, qq11, Kd.Q_of_R (qq4 HO_3.out), qq6 HI0.out, qq5 HB.out HI0.out, qq3⟩
  · rw [if_neg c3] at H
    have c3b0 : (t216 == 0) = false := beq_eq_false_iff_ne.mpr c3
    have c3b1 : (t216 != 0) = true := bne_iff_ne.mpr c3
    by_cases c14 : t216 = 1
    · rw [if_pos c14] at H
      have c14b0 : (t216 == 1) = true := beq_iff_eq.mpr c14
      have c14b1 : (t216 != 1) = false := bne_eq_false_iff_eq.mpr c14
      clear c14
      replace H := Option.bind_eq_some_iff.mp H
      obtain ⟨⟨t229, t232⟩, A150, H⟩ := H
      replace H : (some (t229, t232)) = some (r1, r2) := H
      have A15 := Aside0.mk A150
      clear A150
      simp only [Option.some.injEq, Prod.mk.injEq] at H
      obtain ⟨rfl, rfl⟩ := H
      go_enter Try.func41, Try.ntmps41
      go_wp2_with (first | ((with_reducible refine gate_callee (f := 48) rfl ?_); refine goesL_ (some 10) rfl rfl Try.func48 (by kernel_rfl) rfl #[.pointer (some ⟨g, 0, none⟩), .int .i64 8] rfl qq2 ?_; (with_reducible refine (spec_l6Rd_pick.calls k g s0_0 s0_1 8 t216 t217 w0 _ ?side1 ?side2 A2.out).mono ?_); (case side1 => exact qq6 HI0.out); (case side2 => exact qq5 HB.out HI0.out); rintro e w16 ⟨rfl, hi, hb, hk⟩; refine ⟨_, rfl, ?_⟩; have n0_ := Aside0.mk (KeepBut.trans qq3 hk (.inl rfl)); have n1_ := Aside0.mk (hb); have n2_ := Aside0.mk (hi); clear HK; clear HB; clear HI0; have HK := n0_; have HB := n1_; have HI0 := n2_; clear n0_ n1_ n2_; (try clear hb); (try clear hb2); (try clear hk); (try clear hi)) | ((with_reducible refine gate_callee (f := 59) rfl ?_); refine goesL_ (some 32) rfl rfl Try.func59 (by kernel_rfl) rfl #[.pointer (some ⟨g, 0, none⟩)] rfl qq2 ?_; (with_reducible refine (spec_l92Box.calls k g s0_0 t217 t229 t232 w0 _ ?side1 ?side2 A15.out).mono ?_); (case side1 => exact qq6 HI0.out); (case side2 => exact qq5 HB.out HI0.out); rintro e w17 ⟨v230, rfl, ho0, hi, hb, hk⟩; refine ⟨_, rfl, ?_⟩; have n0_ := Aside0.mk (Kd.Q_lower ho0 (keep_size (w := w) (g := g) (row := none) qq3)); have n1_ := Aside0.mk (KeepBut.trans qq3 hk (.inl rfl)); have n2_ := Aside0.mk (hb); have n3_ := Aside0.mk (hi); clear HK; clear HB; clear HI0; have HO231 := n0_; have HK := n1_; have HB := n2_; have HI0 := n3_; clear n0_ n1_ n2_ n3_; (try clear hb); (try clear hb2); (try clear hk); (try clear hi); (try clear ho0)))
      go_ret
      exact ⟨_, qq11, qq12 HO231.out, qq6 HI0.out, qq5 HB.out HI0.out, qq3⟩
    · rw [if_neg c14] at H
      have c14b0 : (t216 == 1) = false := beq_eq_false_iff_ne.mpr c14
      have c14b1 : (t216 != 1) = true := bne_iff_ne.mpr c14
      by_cases c18 : t216 = 2
      · rw [if_pos c18] at H
        have c18b0 : (t216 == 2) = true := beq_iff_eq.mpr c18
        have c18b1 : (t216 != 2) = false := bne_eq_false_iff_eq.mpr c18
        clear c18
        replace H := Option.bind_eq_some_iff.mp H
        obtain ⟨⟨t233, t236⟩, A190, H⟩ := H
        replace H : (some (t233, t236)) = some (r1, r2) := H
        have A19 := Aside0.mk A190
        clear A190
        simp only [Option.some.injEq, Prod.mk.injEq] at H
        obtain ⟨rfl, rfl⟩ := H
        go_enter Try.func41, Try.ntmps41
        go_wp2_with (first | ((with_reducible refine gate_callee (f := 48) rfl ?_); refine goesL_ (some 10) rfl rfl Try.func48 (by kernel_rfl) rfl #[.pointer (some ⟨g, 0, none⟩), .int .i64 8] rfl qq2 ?_; (with_reducible refine (spec_l6Rd_pick.calls k g s0_0 s0_1 8 t216 t217 w0 _ ?side1 ?side2 A2.out).mono ?_); (case side1 => exact qq6 HI0.out); (case side2 => exact qq5 HB.out HI0.out); rintro e w20 ⟨rfl, hi, hb, hk⟩; refine ⟨_, rfl, ?_⟩; have n0_ := Aside0.mk (KeepBut.trans qq3 hk (.inl rfl)); have n1_ := Aside0.mk (hb); have n2_ := Aside0.mk (hi); clear HK; clear HB; clear HI0; have HK := n0_; have HB := n1_; have HI0 := n2_; clear n0_ n1_ n2_; (try clear hb); (try clear hb2); (try clear hk); (try clear hi)) | ((with_reducible refine gate_callee (f := 59) rfl ?_); refine goesL_ (some 32) rfl rfl Try.func59 (by kernel_rfl) rfl #[.pointer (some ⟨g, 0, none⟩)] rfl qq2 ?_; (with_reducible refine (spec_l92Box.calls k g s0_0 t217 t233 t236 w0 _ ?side1 ?side2 A19.out).mono ?_); (case side1 => exact qq6 HI0.out); (case side2 => exact qq5 HB.out HI0.out); rintro e w21 ⟨v234, rfl, ho0, hi, hb, hk⟩; refine ⟨_, rfl, ?_⟩; have n0_ := Aside0.mk (Kd.Q_lower ho0 (keep_size (w := w) (g := g) (row := none) qq3)); have n1_ := Aside0.mk (KeepBut.trans qq3 hk (.inl rfl)); have n2_ := Aside0.mk (hb); have n3_ := Aside0.mk (hi); clear HK; clear HB; clear HI0; have HO235 := n0_; have HK := n1_; have HB := n2_; have HI0 := n3_; clear n0_ n1_ n2_ n3_; (try clear hb); (try clear hb2); (try clear hk); (try clear hi); (try clear ho0)))
        go_ret
        exact ⟨_, qq11, qq12 HO235.out, qq6 HI0.out, qq5 HB.out HI0.out, qq3⟩
      · rw [if_neg c18] at H
        have c18b0 : (t216 == 2) = false := beq_eq_false_iff_ne.mpr c18
        have c18b1 : (t216 != 2) = true := bne_iff_ne.mpr c18
        by_cases c22 : t216 = 3
        · rw [if_pos c22] at H
          have c22b0 : (t216 == 3) = true := beq_iff_eq.mpr c22
          have c22b1 : (t216 != 3) = false := bne_eq_false_iff_eq.mpr c22
          clear c22
          replace H := Option.bind_eq_some_iff.mp H
          obtain ⟨⟨t237, t240⟩, A230, H⟩ := H
          replace H : (some (t237, t240)) = some (r1, r2) := H
          have A23 := Aside0.mk A230
          clear A230
          simp only [Option.some.injEq, Prod.mk.injEq] at H
          obtain ⟨rfl, rfl⟩ := H
          go_enter Try.func41, Try.ntmps41
          go_wp2_with (first | ((with_reducible refine gate_callee (f := 48) rfl ?_); refine goesL_ (some 10) rfl rfl Try.func48 (by kernel_rfl) rfl #[.pointer (some ⟨g, 0, none⟩), .int .i64 8] rfl qq2 ?_; (with_reducible refine (spec_l6Rd_pick.calls k g s0_0 s0_1 8 t216 t217 w0 _ ?side1 ?side2 A2.out).mono ?_); (case side1 => exact qq6 HI0.out); (case side2 => exact qq5 HB.out HI0.out); rintro e w24 ⟨rfl, hi, hb, hk⟩; refine ⟨_, rfl, ?_⟩; have n0_ := Aside0.mk (KeepBut.trans qq3 hk (.inl rfl)); have n1_ := Aside0.mk (hb); have n2_ := Aside0.mk (hi); clear HK; clear HB; clear HI0; have HK := n0_; have HB := n1_; have HI0 := n2_; clear n0_ n1_ n2_; (try clear hb); (try clear hb2); (try clear hk); (try clear hi)) | ((with_reducible refine gate_callee (f := 59) rfl ?_); refine goesL_ (some 32) rfl rfl Try.func59 (by kernel_rfl) rfl #[.pointer (some ⟨g, 0, none⟩)] rfl qq2 ?_; (with_reducible refine (spec_l92Box.calls k g s0_0 t217 t237 t240 w0 _ ?side1 ?side2 A23.out).mono ?_); (case side1 => exact qq6 HI0.out); (case side2 => exact qq5 HB.out HI0.out); rintro e w25 ⟨v238, rfl, ho0, hi, hb, hk⟩; refine ⟨_, rfl, ?_⟩; have n0_ := Aside0.mk (Kd.Q_lower ho0 (keep_size (w := w) (g := g) (row := none) qq3)); have n1_ := Aside0.mk (KeepBut.trans qq3 hk (.inl rfl)); have n2_ := Aside0.mk (hb); have n3_ := Aside0.mk (hi); clear HK; clear HB; clear HI0; have HO239 := n0_; have HK := n1_; have HB := n2_; have HI0 := n3_; clear n0_ n1_ n2_ n3_; (try clear hb); (try clear hb2); (try clear hk); (try clear hi); (try clear ho0)))
          go_ret
          exact ⟨_, qq11, qq12 HO239.out, qq6 HI0.out, qq5 HB.out HI0.out, qq3⟩
        · rw [if_neg c22] at H
          have c22b0 : (t216 == 3) = false := beq_eq_false_iff_ne.mpr c22
          have c22b1 : (t216 != 3) = true := bne_iff_ne.mpr c22
          replace H := Option.bind_eq_some_iff.mp H
          obtain ⟨⟨t241, t244⟩, A260, H⟩ := H
          replace H : ((spec_l6Rd_pick.f k s0_0 t244 5).bind fun bt245 => (if bt245.1 = 0 then ((spec_PolyBack.f k t241).bind fun bt247 => (some (bt247.1, bt245.2))) else (some (t241, bt245.2)))) = some (r1, r2) := H
          have A26 := Aside0.mk A260
          clear A260
          replace H := Option.bind_eq_some_iff.mp H
          obtain ⟨⟨t245, t246⟩, A270, H⟩ := H
          replace H : (if t245 = 0 then ((spec_PolyBack.f k t241).bind fun bt247 => (some (bt247.1, t246))) else (some (t241, t246))) = some (r1, r2) := H
          have A27 := Aside0.mk A270
          clear A270
          by_cases c28 : t245 = 0
          · rw [if_pos c28] at H
            have c28b0 : (t245 == 0) = true := beq_iff_eq.mpr c28
            have c28b1 : (t245 != 0) = false := bne_eq_false_iff_eq.mpr c28
            clear c28
            replace H := Option.bind_eq_some_iff.mp H
            obtain ⟨⟨t247, t248⟩, A290, H⟩ := H
            replace H : (some (t247, t246)) = some (r1, r2) := H
            have A29 := Aside0.mk A290
            clear A290
            simp only [Option.some.injEq, Prod.mk.injEq] at H
            obtain ⟨rfl, rfl⟩ := H
            go_enter Try.func41, Try.ntmps41
            go_wp2_with (first | ((with_reducible refine gate_callee (f := 48) rfl ?_); refine goesL_ (some 10) rfl rfl Try.func48 (by kernel_rfl) rfl #[.pointer (some ⟨g, 0, none⟩), .int .i64 8] rfl qq2 ?_; (with_reducible refine (spec_l6Rd_pick.calls k g s0_0 s0_1 8 t216 t217 w0 _ ?side1 ?side2 A2.out).mono ?_); (case side1 => exact qq6 HI0.out); (case side2 => exact qq5 HB.out HI0.out); rintro e w30 ⟨rfl, hi, hb, hk⟩; refine ⟨_, rfl, ?_⟩; have n0_ := Aside0.mk (KeepBut.trans qq3 hk (.inl rfl)); have n1_ := Aside0.mk (hb); have n2_ := Aside0.mk (hi); clear HK; clear HB; clear HI0; have HK := n0_; have HB := n1_; have HI0 := n2_; clear n0_ n1_ n2_; (try clear hb); (try clear hb2); (try clear hk); (try clear hi)) | ((with_reducible refine gate_callee (f := 72) rfl ?_); refine goesL_ (some 34) rfl rfl Try.func72 (by kernel_rfl) rfl #[.pointer (some ⟨g, 0, none⟩)] rfl qq2 ?_; (with_reducible refine (spec_l92Star.calls k g s0_0 t217 t241 t244 w0 _ ?side1 ?side2 A26.out).mono ?_); (case side1 => exact qq6 HI0.out); (case side2 => exact qq5 HB.out HI0.out); rintro e w31 ⟨v242, rfl, ho0, hi, hb, hk⟩; refine ⟨_, rfl, ?_⟩; have n0_ := Aside0.mk (Kd.R_lower ho0 (keep_size (w := w) (g := g) (row := none) qq3)); have n1_ := Aside0.mk (KeepBut.trans qq3 hk (.inl rfl)); have n2_ := Aside0.mk (hb); have n3_ := Aside0.mk (hi); clear HK; clear HB; clear HI0; have HO243 := n0_; have HK := n1_; have HB := n2_; have HI0 := n3_; clear n0_ n1_ n2_ n3_; (try clear hb); (try clear hb2); (try clear hk); (try clear hi); (try clear ho0)) | ((with_reducible refine gate_callee (f := 48) rfl ?_); refine goesL_ (some 36) rfl rfl Try.func48 (by kernel_rfl) rfl #[.pointer (some ⟨g, 0, none⟩), .int .i64 5] rfl qq2 ?_; (with_reducible refine (spec_l6Rd_pick.calls k g s0_0 t244 5 t245 t246 w0 _ ?side1 ?side2 A27.out).mono ?_); (case side1 => exact qq6 HI0.out); (case side2 => exact qq5 HB.out HI0.out); rintro e w32 ⟨rfl, hi, hb, hk⟩; refine ⟨_, rfl, ?_⟩; have n0_ := Aside0.mk (Kd.R_mono (Kd.R_keep (IsS81.apart (show IsS81 w0 _ g s0_0 t244 from by repeat (first | (with_reducible first | exact HI0.out | apply IsS81.alloc | apply IsS81.drewN | apply IsS81.drew | apply IsS81.set_1) | exact HI0.out)) (qq4 HO243.out) (by decide)) hk (fun _ h => h.2)) (fun _ h => h.1)); have n1_ := Aside0.mk (KeepBut.trans qq3 hk (.inl rfl)); have n2_ := Aside0.mk (hb); have n3_ := Aside0.mk (hi); clear HO243; clear HK; clear HB; clear HI0; have HO243 := n0_; have HK := n1_; have HB := n2_; have HI0 := n3_; clear n0_ n1_ n2_ n3_; (try clear hb); (try clear hb2); (try clear hk); (try clear hi); obtain ⟨Ao33, co33, eo33⟩ := Kd.R_slice HO243.out; subst eo33) | ((with_reducible refine gate_callee (f := 73) rfl ?_); refine goesL_ (some 40) rfl rfl Try.func73 (by kernel_rfl) rfl #[.slice Ao33 t241.length co33] rfl qq2 ?_; (with_reducible refine (spec_PolyBack.calls k _ _ t241 t247 t248 _ ?side1 ?side2 A29.out).mono ?_); (case side1 => exact qq33 HO243.out); (case side2 => exact (Kd.R_reads' HO243.out).2.1); rintro e w34 ⟨v249, rfl, ho0, hb⟩; refine ⟨_, rfl, ?_⟩; have n0_ := Aside0.mk (Kd.R_elder' (qq4 HO243.out) (Kd.R_base ho0) hb); have n1_ := Aside0.mk (Kd.R_lower (Kd.R_new' ho0 (Kd.R_lt (qq4 HO243.out))) (keep_size (w := w) (g := g) (row := none) qq3)); have n2_ := Aside0.mk (IsS81.below (qq6 HI0.out) hb); have n3_ := Aside0.mk (KeepBut.trans qq3 (KeepBut.of_below hb g none) (.inl rfl)); have n4_ := Aside0.mk (below_step (qq5 HB.out HI0.out) hb); clear HO243; clear HI0; clear HK; clear HB; have HO243 := n0_; have HO250 := n1_; have HI0 := n2_; have HK := n3_; have HB := n4_; clear n0_ n1_ n2_ n3_ n4_; (try clear hb); (try clear hb2); (try clear hk); (try clear hi); (try clear ho0)))
            go_ret
            exact ⟨_, qq11, Kd.Q_of_R (qq63 HO250.out), qq6 HI0.out, qq5 HB.out HI0.out, qq3⟩
          · rw [if_neg c28] at H
            have c28b0 : (t245 == 0) = false := beq_eq_false_iff_ne.mpr c28
            have c28b1 : (t245 != 0) = true := bne_iff_ne.mpr c28
            simp only [Option.some.injEq, Prod.mk.injEq] at H
            obtain ⟨rfl, rfl⟩ := H
            go_enter Try.func41, Try.ntmps41
            go_wp2_with (first | ((with_reducible refine gate_callee (f := 48) rfl ?_); refine goesL_ (some 10) rfl rfl Try.func48 (by kernel_rfl) rfl #[.pointer (some ⟨g, 0, none⟩), .int .i64 8] rfl qq2 ?_; (with_reducible refine (spec_l6Rd_pick.calls k g s0_0 s0_1 8 t216 t217 w0 _ ?side1 ?side2 A2.out).mono ?_); (case side1 => exact qq6 HI0.out); (case side2 => exact qq5 HB.out HI0.out); rintro e w35 ⟨rfl, hi, hb, hk⟩; refine ⟨_, rfl, ?_⟩; have n0_ := Aside0.mk (KeepBut.trans qq3 hk (.inl rfl)); have n1_ := Aside0.mk (hb); have n2_ := Aside0.mk (hi); clear HK; clear HB; clear HI0; have HK := n0_; have HB := n1_; have HI0 := n2_; clear n0_ n1_ n2_; (try clear hb); (try clear hb2); (try clear hk); (try clear hi)) | ((with_reducible refine gate_callee (f := 72) rfl ?_); refine goesL_ (some 34) rfl rfl Try.func72 (by kernel_rfl) rfl #[.pointer (some ⟨g, 0, none⟩)] rfl qq2 ?_; (with_reducible refine (spec_l92Star.calls k g s0_0 t217 t241 t244 w0 _ ?side1 ?side2 A26.out).mono ?_); (case side1 => exact qq6 HI0.out); (case side2 => exact qq5 HB.out HI0.out); rintro e w36 ⟨v242, rfl, ho0, hi, hb, hk⟩; refine ⟨_, rfl, ?_⟩; have n0_ := Aside0.mk (Kd.R_lower ho0 (keep_size (w := w) (g := g) (row := none) qq3)); have n1_ := Aside0.mk (KeepBut.trans qq3 hk (.inl rfl)); have n2_ := Aside0.mk (hb); have n3_ := Aside0.mk (hi); clear HK; clear HB; clear HI0; have HO243 := n0_; have HK := n1_; have HB := n2_; have HI0 := n3_; clear n0_ n1_ n2_ n3_; (try clear hb); (try clear hb2); (try clear hk); (try clear hi); (try clear ho0)) | ((with_reducible refine gate_callee (f := 48) rfl ?_); refine goesL_ (some 36) rfl rfl Try.func48 (by kernel_rfl) rfl #[.pointer (some ⟨g, 0, none⟩), .int .i64 5] rfl qq2 ?_; (with_reducible refine (spec_l6Rd_pick.calls k g s0_0 t244 5 t245 t246 w0 _ ?side1 ?side2 A27.out).mono ?_); (case side1 => exact qq6 HI0.out); (case side2 => exact qq5 HB.out HI0.out); rintro e w37 ⟨rfl, hi, hb, hk⟩; refine ⟨_, rfl, ?_⟩; have n0_ := Aside0.mk (Kd.R_mono (Kd.R_keep (IsS81.apart (show IsS81 w0 _ g s0_0 t244 from by repeat (first | (with_reducible first | exact HI0.out | apply IsS81.alloc | apply IsS81.drewN | apply IsS81.drew | apply IsS81.set_1) | exact HI0.out)) (qq4 HO243.out) (by decide)) hk (fun _ h => h.2)) (fun _ h => h.1)); have n1_ := Aside0.mk (KeepBut.trans qq3 hk (.inl rfl)); have n2_ := Aside0.mk (hb); have n3_ := Aside0.mk (hi); clear HO243; clear HK; clear HB; clear HI0; have HO243 := n0_; have HK := n1_; have HB := n2_; have HI0 := n3_; clear n0_ n1_ n2_ n3_; (try clear hb); (try clear hb2); (try clear hk); (try clear hi)))
            go_ret
            exact ⟨_, qq11, Kd.Q_of_R (qq4 HO243.out), qq6 HI0.out, qq5 HB.out HI0.out, qq3⟩

end Go.Proofs.Ytgdhgncdpmalcaa.Q
namespace Go.Proofs.Ytgdhgncdpmalcaa.Q
open Go.RowKit Go.Proofs.YtgdhgncdpmalcaaW.PrintWords Go.Proofs.YtgdhgncdpmalcaaW.PrintLast Go.Proofs.YtgdhgncdpmalcaaW.PrintMore
attribute [local go_sem] max2_int min2_int max_two min_two max_three min_three max_four min_four
set_option linter.unusedVariables false
set_option linter.unusedSimpArgs false

/-! ### spec_l6Open: function 42 -/
def spec_l6Open.f (l0 : List Int) : Option (List Int × Int) := if (l0.length : Int) > 2000 then (if 2000 ≤ (l0.length : Int) then (some (l0.take 2000, 0)) else (none)) else (some (l0, 0))
set_option maxHeartbeats 8000000 in
set_option maxRecDepth 100000 in
theorem spec_l6Open.calls (A0 : Option Addr) (c0 : Nat) (l0 : List Int) (r1 : List Int) (r2 : Int) (w0 w : World) (hB : Below w0.heap.size w0 w) (hr0 : Kd.C (Kd.int .u8) w0 A0 l0.length l0) (hc0 : l0.length ≤ c0) (h : spec_l6Open.f l0 = some (r1, r2)) :
    Calls Try.prog 42 #[.slice A0 l0.length c0] w fun e w' => ∃ g_ : Nat, e = .returned (.pointer (some ⟨g_, 0, none⟩)) ∧ IsS81 w0 w' g_ r1 r2 ∧ Below w0.heap.size w0 w' ∧ Below w.heap.size w w' := by
  have hu81 := Try.underlying81
  have HR0 := Aside0.mk hr0
  have HC0 := Aside0.mk hc0
  clear hr0 hc0
  have HBW := Aside0.mk (Below.refl w.heap.size w)
  have HW0 := Aside0.mk hB.size
  have HB := Aside0.mk hB
  clear hB
  have H : (if (l0.length : Int) > 2000 then (if 2000 ≤ (l0.length : Int) then (some (l0.take 2000, 0)) else (none)) else (some (l0, 0))) = some (r1, r2) := h
  clear h
  by_cases c2 : (l0.length : Int) > 2000
  · rw [if_pos c2] at H
    have c2b0 : decide (2000 < (l0.length : Int)) = true := decide_eq_true c2
    have c2b1 : decide (2000 < l0.length) = true := decide_eq_true (by omega)
    clear c2
    by_cases c3 : 2000 ≤ (l0.length : Int)
    · rw [if_pos c3] at H
      have c3b0 := eq_true c3
      have c3b1 : decide (2000 ≤ (l0.length : Int)) = true := decide_eq_true c3
      clear c3
      simp only [Option.some.injEq, Prod.mk.injEq] at H
      obtain ⟨rfl, rfl⟩ := H
      obtain ⟨i04, hi04, _, hsz4, _⟩ := info_parts info5
      obtain ⟨hcut4, hA4, hC4⟩ := print_take_of (P := Try.prog) (Value.int .u8) 0 22 5 .i64 Try.underlying22 hi04 hsz4 A0 c0 l0 2000 (by omega) (of_decide_eq_true qq18) HC0.out
      have HR251 := Aside0.mk (Kd.C_of_reads (h1 := fun _ => rfl) (hA4 _ (Kd.reads_of_C HR0.out)))
      have HC251 := Aside0.mk hC4
      clear hA4 hC4 hi04 hsz4
      go_enter Try.func42, Try.ntmps42
      go_wp2_with (first | ((with_reducible refine gate_dst (N := 10) rfl ?_); refine box_event ?hg (N := 10) ?hd (cs := #[.slice A0 (l0.take 2000).length c0, .int .i64 0]) (t := 81) ?hr ?_; (case hd => rfl); (case hg => rfl); (case hr => exact qq21); intro gb252 hg w5 hbox hb; have n0_ := Aside0.mk (below_step HBW.out hb); have n1_ := Aside0.mk (below_step qq1 hb); have n2_ := Aside0.mk (hbox); have n3_ := Aside0.mk ((qq40 : w.heap.size ≤ gb252)); have n4_ := Aside0.mk ((Nat.le_trans HW0.out (qq40 : w.heap.size ≤ gb252) : w0.heap.size ≤ gb252)); clear HBW; clear HB; have HBW := n0_; have HB := n1_; have BK252 := n2_; have GW252 := n3_; have GE252 := n4_; clear n0_ n1_ n2_ n3_ n4_; clear hb hbox hg))
      go_ret
      exact ⟨_, rfl, (show IsS81 w0 _ gb252 (l0.take 2000) 0 from ⟨_, _, qq9 BK252.out, GE252.out, HR251.out⟩), qq8 HB.out GE252.out, qq8 HBW.out GW252.out⟩
    · rw [if_neg c3] at H
      exact absurd H (by simp)
  · rw [if_neg c2] at H
    have c2b0 : decide (2000 < (l0.length : Int)) = false := decide_eq_false c2
    have c2b1 : decide (2000 < l0.length) = false := decide_eq_false (by omega)
    clear c2
    simp only [Option.some.injEq, Prod.mk.injEq] at H
    obtain ⟨rfl, rfl⟩ := H
    go_enter Try.func42, Try.ntmps42
    go_wp2_with (first | ((with_reducible refine gate_dst (N := 10) rfl ?_); refine box_event ?hg (N := 10) ?hd (cs := #[.slice A0 l0.length c0, .int .i64 0]) (t := 81) ?hr ?_; (case hd => rfl); (case hg => rfl); (case hr => exact qq21); intro gb253 hg w6 hbox hb; have n0_ := Aside0.mk (below_step HBW.out hb); have n1_ := Aside0.mk (below_step qq1 hb); have n2_ := Aside0.mk (hbox); have n3_ := Aside0.mk ((qq40 : w.heap.size ≤ gb253)); have n4_ := Aside0.mk ((Nat.le_trans HW0.out (qq40 : w.heap.size ≤ gb253) : w0.heap.size ≤ gb253)); clear HBW; clear HB; have HBW := n0_; have HB := n1_; have BK253 := n2_; have GW253 := n3_; have GE253 := n4_; clear n0_ n1_ n2_ n3_ n4_; clear hb hbox hg))
    go_ret
    exact ⟨_, rfl, (show IsS81 w0 _ gb253 l0 0 from ⟨_, _, qq9 BK253.out, GE253.out, HR0.out⟩), qq8 HB.out GE253.out, qq8 HBW.out GW253.out⟩

end Go.Proofs.Ytgdhgncdpmalcaa.Q
namespace Go.Proofs.Ytgdhgncdpmalcaa.Q
open Go.RowKit Go.Proofs.YtgdhgncdpmalcaaW.PrintWords Go.Proofs.YtgdhgncdpmalcaaW.PrintLast Go.Proofs.YtgdhgncdpmalcaaW.PrintMore
attribute [local go_sem] max2_int min2_int max_two min_two max_three min_three max_four min_four
set_option linter.unusedVariables false
set_option linter.unusedSimpArgs false

/-! ### spec_DrawPolyValid: function 17 -/
def spec_DrawPolyValid.f (k : Nat) (l0 : List Int) : Option ((List (S32))) := (spec_l6Open.f l0).bind fun bt254 => ((spec_l92Poly.f k bt254.1 bt254.2).bind fun bt257 => (if (bt257.1.length : Int) > 3 then ((spec_l6Rd_pick.f k bt254.1 bt257.2 5).bind fun bt261 => (if bt261.1 = 0 then (if 3 < (bt257.1.length : Int) then (if 1 < (bt257.1.length : Int) then (some (bt257.1.set (1 : Int).toNat (⟨(rd_T32 bt257.1 3).f0, (rd_T32 bt257.1 3).f1⟩ : S32))) else (none)) else (none)) else (some bt257.1))) else (some bt257.1)))
set_option maxHeartbeats 8000000 in
set_option maxRecDepth 100000 in
theorem spec_DrawPolyValid.calls (k : Nat) (A0 : Option Addr) (c0 : Nat) (l0 : List Int) (r : List (S32)) (w : World) (hr0 : Kd.C (Kd.int .u8) w A0 l0.length l0) (hc0 : l0.length ≤ c0) (h : spec_DrawPolyValid.f k l0 = some r) :
    Calls Try.prog 17 #[.slice A0 l0.length c0] w fun e w' => ∃ v0_ : Value, e = .returned (v0_) ∧ Kd.Q k32 32 w' w.heap.size (fun _ => True) v0_ r ∧ Below w.heap.size w w' := by
  have hu32 := Try.underlying32
  have HR0 := Aside0.mk hr0
  have HC0 := Aside0.mk hc0
  clear hr0 hc0
  have HB := Aside0.mk (Below.refl w.heap.size w)
  have H : ((spec_l6Open.f l0).bind fun bt254 => ((spec_l92Poly.f k bt254.1 bt254.2).bind fun bt257 => (if (bt257.1.length : Int) > 3 then ((spec_l6Rd_pick.f k bt254.1 bt257.2 5).bind fun bt261 => (if bt261.1 = 0 then (if 3 < (bt257.1.length : Int) then (if 1 < (bt257.1.length : Int) then (some (bt257.1.set (1 : Int).toNat (⟨(rd_T32 bt257.1 3).f0, (rd_T32 bt257.1 3).f1⟩ : S32))) else (none)) else (none)) else (some bt257.1))) else (some bt257.1)))) = some r := h
  clear h
  replace H := Option.bind_eq_some_iff.mp H
  obtain ⟨⟨t254, t255⟩, A20, H⟩ := H
  replace H : ((spec_l92Poly.f k t254 t255).bind fun bt257 => (if (bt257.1.length : Int) > 3 then ((spec_l6Rd_pick.f k t254 bt257.2 5).bind fun bt261 => (if bt261.1 = 0 then (if 3 < (bt257.1.length : Int) then (if 1 < (bt257.1.length : Int) then (some (bt257.1.set (1 : Int).toNat (⟨(rd_T32 bt257.1 3).f0, (rd_T32 bt257.1 3).f1⟩ : S32))) else (none)) else (none)) else (some bt257.1))) else (some bt257.1))) = some r := H
  have A2 := Aside0.mk A20
  clear A20
  replace H := Option.bind_eq_some_iff.mp H
  obtain ⟨⟨t257, t260⟩, A30, H⟩ := H
  replace H : (if (t257.length : Int) > 3 then ((spec_l6Rd_pick.f k t254 t260 5).bind fun bt261 => (if bt261.1 = 0 then (if 3 < (t257.length : Int) then (if 1 < (t257.length : Int) then (some (t257.set (1 : Int).toNat (⟨(rd_T32 t257 3).f0, (rd_T32 t257 3).f1⟩ : S32))) else (none)) else (none)) else (some t257))) else (some t257)) = some r := H
  have A3 := Aside0.mk A30
  clear A30
  by_cases c4 : (t257.length : Int) > 3
  · rw [if_pos c4] at H
    have c4b0 : decide (3 < (t257.length : Int)) = true := decide_eq_true c4
    have c4b1 : decide (3 < t257.length) = true := decide_eq_true (by omega)
    clear c4
    replace H := Option.bind_eq_some_iff.mp H
    obtain ⟨⟨t261, t262⟩, A50, H⟩ := H
    replace H : (if t261 = 0 then (if 3 < (t257.length : Int) then (if 1 < (t257.length : Int) then (some (t257.set (1 : Int).toNat (⟨(rd_T32 t257 3).f0, (rd_T32 t257 3).f1⟩ : S32))) else (none)) else (none)) else (some t257)) = some r := H
    have A5 := Aside0.mk A50
    clear A50
    by_cases c6 : t261 = 0
    · rw [if_pos c6] at H
      have c6b0 : (t261 == 0) = true := beq_iff_eq.mpr c6
      have c6b1 : (t261 != 0) = false := bne_eq_false_iff_eq.mpr c6
      clear c6
      by_cases c7 : 3 < (t257.length : Int)
      · rw [if_pos c7] at H
        have c7b0 : decide (3 < (t257.length : Int)) = true := decide_eq_true c7
        have c7b1 : decide (3 < t257.length) = true := decide_eq_true (by omega)
        clear c7
        by_cases c8 : 1 < (t257.length : Int)
        · rw [if_pos c8] at H
          have c8b0 : decide (1 < (t257.length : Int)) = true := decide_eq_true c8
          have c8b1 : decide (1 < t257.length) = true := decide_eq_true (by omega)
          clear c8
          obtain ⟨y264, hy264⟩ : ∃ y_ : List (S32), y_ = (t257.set (1 : Int).toNat (⟨(rd_T32 t257 3).f0, (rd_T32 t257 3).f1⟩ : S32)) := ⟨_, rfl⟩
          replace H : (some y264) = some r := by first | (rw [hy264]; with_reducible exact H) | (have H2_ := (Option.bind_some _ _).symm.trans H; rw [hy264]; with_reducible exact H2_) | (have H2_ := (Option.bind_some _ _).symm.trans H; with_reducible exact H2_) | with_reducible exact H | (rw [hy264]; exact H) | exact H
          have Ny264 := Aside0.mk hy264
          clear hy264
          obtain rfl := Option.some.inj H
          go_enter Try.func17, Try.ntmps17
          go_wp2_with (first | ((with_reducible refine gate_callee (f := 42) rfl ?_); refine goesL_ (some 6) rfl rfl Try.func42 (by kernel_rfl) rfl #[.slice A0 l0.length c0] rfl qq2 ?_; (with_reducible refine (spec_l6Open.calls _ _ l0 t254 t255 w _ ?side1 ?side2 ?side3 A2.out).mono ?_); (case side1 => exact qq1); (case side2 => exact HR0.out); (case side3 => exact HC0.out); rintro e w10 ⟨g256, rfl, hi, hb, hb2⟩; refine ⟨_, rfl, ?_⟩; have n0_ := Aside0.mk (hb); have n1_ := Aside0.mk (hi); clear HB; have HB := n0_; have HI256 := n1_; clear n0_ n1_; (try clear hb); (try clear hb2); (try clear hk); (try clear hi)) | ((with_reducible refine gate_callee (f := 41) rfl ?_); refine goesL_ (some 8) rfl rfl Try.func41 (by kernel_rfl) rfl #[.pointer (some ⟨g256, 0, none⟩)] rfl qq2 ?_; (with_reducible refine (spec_l92Poly.calls k g256 t254 t255 t257 t260 w _ ?side1 ?side2 A3.out).mono ?_); (case side1 => exact qq6 HI256.out); (case side2 => exact qq5 HB.out HI256.out); rintro e w11 ⟨v258, rfl, ho0, hi, hb, hk⟩; refine ⟨_, rfl, ?_⟩; have n0_ := Aside0.mk (Kd.Q_lower ho0 (below_size (qq5 HB.out HI256.out))); have n1_ := Aside0.mk (hb); have n2_ := Aside0.mk (hi); clear HB; clear HI256; have HO259 := n0_; have HB := n1_; have HI256 := n2_; clear n0_ n1_ n2_; (try clear hb); (try clear hb2); (try clear hk); (try clear hi); (try clear ho0); obtain ⟨Ao12, co12, eo12, _⟩ := Kd.Q_slice HO259.out; subst eo12) | (go_at_call 48; (with_reducible refine (spec_l6Rd_pick.calls k g256 t254 t260 5 t261 t262 w _ ?side1 ?side2 A5.out).mono ?_); (case side1 => exact qq6 HI256.out); (case side2 => exact qq5 HB.out HI256.out); rintro e w13 ⟨rfl, hi, hb, hk⟩; have n0_ := Aside0.mk (Kd.Q_mono (Kd.Q_keep (IsS81.apartQ (show IsS81 w _ g256 t254 t260 from by repeat (first | (with_reducible first | exact HI256.out | apply IsS81.alloc | apply IsS81.drewN | apply IsS81.drew | apply IsS81.set_1) | exact HI256.out)) (qq12 HO259.out) (by decide)) hk (fun _ h => h.2)) (fun _ h => h.1)); have n1_ := Aside0.mk (hb); have n2_ := Aside0.mk (hi); clear HO259; clear HB; clear HI256; have HO259 := n0_; have HB := n1_; have HI256 := n2_; clear n0_ n1_ n2_; (try clear hb); (try clear hb2); (try clear hk); (try clear hi); have p263 : 0 ≤ (3 : Int) := (by omega); have q263 : 3 < (t257.length : Int) := of_decide_eq_true qq18; obtain ⟨ad263, e263, hx263_0, hx263_1⟩ := at_T32 (Kd.Q_reads' HO259.out).2.2 3 p263 q263; cases e263; (try simp only [show (3 : Int).toNat = 3 from rfl, Nat.reduceMul, Nat.reduceEqDiff, Go.Addr.add, ↓reduceIte] at hx263_0); (try simp only [show (3 : Int).toNat = 3 from rfl, Nat.reduceMul, Nat.reduceEqDiff, Go.Addr.add, ↓reduceIte] at hx263_1); have qi263 : (3 < t257.length) = True := eq_true (by omega); (try rw [show ((3 : Int)).toNat = 3 from rfl] at hx263_0); (try rw [show 3 * 2 = 6 from rfl] at hx263_0); (try rw [show ((3 : Int)).toNat = 3 from rfl] at hx263_1); (try rw [show 3 * 2 = 6 from rfl] at hx263_1); replace p263 := eq_true p263; replace q263 := eq_true q263; have p9 : 0 ≤ (1 : Int) := (by omega); have q9 : (1 : Int) < ((t257.length : Int) : Int) := of_decide_eq_true qq18; have qi9 : (1 < t257.length) = True := eq_true (by omega); obtain ⟨go9, oo9, co9, eo9, gb9, gl9, cl9, HG9⟩ := Kd.Q_form HO259.out (by omega); (first | cases eo9 | (injection eo9 with ea_ en_ ec_; (first | subst ea_ | (injection ea_ with ea_; subst ea_)); subst ec_; clear en_)); have GB9 := Aside0.mk gb9; have GG9 := Aside0.mk HG9; clear gb9 gl9 HG9; (first | simp only [add_at] at hx263_0 | skip); (first | simp only [add_at] at hx263_1 | skip); obtain ⟨ce9, hcl9, hM9, hcc9, hfr9⟩ := Kd.Q_elem HO259.out z32 (1 : Int) p9 q9; obtain rfl := k32_openM hM9; have hx9_0 : w13.cell? ⟨go9, oo9 + (1 : Int).toNat * 2, none⟩ = some (.int .i64 ((rd_T32 t257 1).f0)) := hcc9 0 _ rfl; have hx9_1 : w13.cell? ⟨go9, oo9 + (1 : Int).toNat * 2 + 1, none⟩ = some (.int .i64 ((rd_T32 t257 1).f1)) := hcc9 1 _ rfl; have hf9_0 : w13.frozen? ⟨go9, oo9 + (1 : Int).toNat * 2, none⟩ = false := hfr9 0; have hf9_1 : w13.frozen? ⟨go9, oo9 + (1 : Int).toNat * 2 + 1, none⟩ = false := hfr9 1; clear hcl9 hcc9 hfr9; (try clear hM9); (try rw [show ((1 : Int)).toNat = 1 from rfl] at hx9_0); (try simp only [Nat.reduceMul, Nat.zero_mul, Nat.zero_add, Nat.reduceAdd] at hx9_0); (try rw [show ((1 : Int)).toNat = 1 from rfl] at hf9_0); (try simp only [Nat.reduceMul, Nat.zero_mul, Nat.zero_add, Nat.reduceAdd] at hf9_0); (try rw [show ((1 : Int)).toNat = 1 from rfl] at hx9_1); (try simp only [Nat.reduceMul, Nat.zero_mul, Nat.zero_add, Nat.reduceAdd] at hx9_1); (try rw [show ((1 : Int)).toNat = 1 from rfl] at hf9_1); (try simp only [Nat.reduceMul, Nat.zero_mul, Nat.zero_add, Nat.reduceAdd] at hf9_1); replace p9 := eq_true p9; replace q9 := eq_true q9; have HX14 := Aside0.mk (show Kd.Q k32 32 w13 w.heap.size (fun _ => True) (.slice (some ⟨go9, oo9, none⟩) t257.length co12) t257 from (qq12 HO259.out)); obtain ⟨ce14, hcl14, hM14, hcc14, hfr14⟩ := Kd.Q_elem HX14.out z32 (1 : Int) (by omega) (by have h_ : (1 : Int) < ((t257.length : Int) : Int) := of_decide_eq_true qq18; first | exact h_ | (have e_ := (Kd.Q_reads' HO259.out).1; omega) | simpa using h_); obtain rfl := k32_openM hM14; have HP14 := Kd.Q_seg HX14.out (1 : Int) (by omega) (by have h_ : (1 : Int) < ((t257.length : Int) : Int) := of_decide_eq_true qq18; first | exact h_ | (have e_ := (Kd.Q_reads' HO259.out).1; omega) | simpa using h_) (seg := [.int .i64 ((rd_T32 t257 3).f0), .int .i64 ((rd_T32 t257 3).f1)]) (j := 0) hcl14 hcc14 (show 2 ≤ 2 from by decide) (x' := (⟨(rd_T32 t257 3).f0, (rd_T32 t257 3).f1⟩ : S32)) (k32_mkM _ _ _ (⟨(rd_T32 t257 3).f0, (rd_T32 t257 3).f1⟩ : S32) ) (fun _ hk => hk); have hx14_0 := hcc14 0 _ rfl; (try simp only [show (k32).sz = 2 from rfl, Nat.mul_one, Nat.add_zero] at hx14_0); (try rw [show ((1 : Int)).toNat = 1 from rfl] at hx14_0); (try simp only [Nat.reduceMul, Nat.zero_mul, Nat.zero_add, Nat.reduceAdd] at hx14_0); have hf14_0 := hfr14 0; (try simp only [show (k32).sz = 2 from rfl, Nat.mul_one, Nat.add_zero] at hf14_0); (try rw [show ((1 : Int)).toNat = 1 from rfl] at hf14_0); (try simp only [Nat.reduceMul, Nat.zero_mul, Nat.zero_add, Nat.reduceAdd] at hf14_0); have hx14_1 := hcc14 1 _ rfl; (try simp only [show (k32).sz = 2 from rfl, Nat.mul_one, Nat.add_zero] at hx14_1); (try rw [show ((1 : Int)).toNat = 1 from rfl] at hx14_1); (try simp only [Nat.reduceMul, Nat.zero_mul, Nat.zero_add, Nat.reduceAdd] at hx14_1); have hf14_1 := hfr14 1; (try simp only [show (k32).sz = 2 from rfl, Nat.mul_one, Nat.add_zero] at hf14_1); (try rw [show ((1 : Int)).toNat = 1 from rfl] at hf14_1); (try simp only [Nat.reduceMul, Nat.zero_mul, Nat.zero_add, Nat.reduceAdd] at hf14_1); clear hcl14 hcc14 hfr14; (try clear hM14)) | ((with_reducible refine gate_store (t := 32) (p := 21) rfl ?_); refine store_event (t := 32) (p := 21) (v := ?vo_w15) (w1 := ((w13.setCell ⟨go9, oo9 + 2, none⟩ (.int .i64 ((rd_T32 t257 3).f0))).setCell ⟨go9, oo9 + 3, none⟩ (.int .i64 ((rd_T32 t257 3).f1)))) ?hg ?ho ?hn ?hr ?_; (case ho => rfl); (case hg => rfl); (case hn => rfl); (case hr => exact qq21); intro w15 hw; have hg : w13.grownBy w15 (some go9) := (by rw [hw]; exact HP14.2); have hp_ : Kd.Q k32 32 w15 w.heap.size (fun _ => True) (.slice (some ⟨go9, oo9, none⟩) t257.length co12) y264 := (by rw [hw, Ny264.out]; exact HP14.1); clear HP14; have n0_ := Aside0.mk (IsS81.grown (qq6 HI256.out) hg (IsS81.own_neQ HI256.out HO259.out (by decide))); have n1_ := Aside0.mk (hp_); have n2_ := Aside0.mk ((by rw [hw]; exact below_set (below_set (HB.out) GB9.out) GB9.out : Below w.heap.size w w15)); clear HI256; clear HO259; clear HB; have HI256 := n0_; have HO259 := n1_; have HB := n2_; clear n0_ n1_ n2_; clear hg hw hp_))
          go_ret
          exact ⟨_, qq11, qq12 HO259.out, qq5 HB.out HI256.out⟩
        · rw [if_neg c8] at H
          exact absurd H (by simp)
      · rw [if_neg c7] at H
        exact absurd H (by simp)
    · rw [if_neg c6] at H
      have c6b0 : (t261 == 0) = false := beq_eq_false_iff_ne.mpr c6
      have c6b1 : (t261 != 0) = true := bne_iff_ne.mpr c6
      obtain rfl := Option.some.inj H
      go_enter Try.func17, Try.ntmps17
      go_wp2_with (first | ((with_reducible refine gate_callee (f := 42) rfl ?_); refine goesL_ (some 6) rfl rfl Try.func42 (by kernel_rfl) rfl #[.slice A0 l0.length c0] rfl qq2 ?_; (with_reducible refine (spec_l6Open.calls _ _ l0 t254 t255 w _ ?side1 ?side2 ?side3 A2.out).mono ?_); (case side1 => exact qq1); (case side2 => exact HR0.out); (case side3 => exact HC0.out); rintro e w16 ⟨g256, rfl, hi, hb, hb2⟩; refine ⟨_, rfl, ?_⟩; have n0_ := Aside0.mk (hb); have n1_ := Aside0.mk (hi); clear HB; have HB := n0_; have HI256 := n1_; clear n0_ n1_; (try clear hb); (try clear hb2); (try clear hk); (try clear hi)) | ((with_reducible refine gate_callee (f := 41) rfl ?_); refine goesL_ (some 8) rfl rfl Try.func41 (by kernel_rfl) rfl #[.pointer (some ⟨g256, 0, none⟩)] rfl qq2 ?_; (with_reducible refine (spec_l92Poly.calls k g256 t254 t255 t257 t260 w _ ?side1 ?side2 A3.out).mono ?_); (case side1 => exact qq6 HI256.out); (case side2 => exact qq5 HB.out HI256.out); rintro e w17 ⟨v258, rfl, ho0, hi, hb, hk⟩; refine ⟨_, rfl, ?_⟩; have n0_ := Aside0.mk (Kd.Q_lower ho0 (below_size (qq5 HB.out HI256.out))); have n1_ := Aside0.mk (hb); have n2_ := Aside0.mk (hi); clear HB; clear HI256; have HO259 := n0_; have HB := n1_; have HI256 := n2_; clear n0_ n1_ n2_; (try clear hb); (try clear hb2); (try clear hk); (try clear hi); (try clear ho0); obtain ⟨Ao18, co18, eo18, _⟩ := Kd.Q_slice HO259.out; subst eo18) | (go_at_call 48; (with_reducible refine (spec_l6Rd_pick.calls k g256 t254 t260 5 t261 t262 w _ ?side1 ?side2 A5.out).mono ?_); (case side1 => exact qq6 HI256.out); (case side2 => exact qq5 HB.out HI256.out); rintro e w19 ⟨rfl, hi, hb, hk⟩; have n0_ := Aside0.mk (Kd.Q_mono (Kd.Q_keep (IsS81.apartQ (show IsS81 w _ g256 t254 t260 from by repeat (first | (with_reducible first | exact HI256.out | apply IsS81.alloc | apply IsS81.drewN | apply IsS81.drew | apply IsS81.set_1) | exact HI256.out)) (qq12 HO259.out) (by decide)) hk (fun _ h => h.2)) (fun _ h => h.1)); have n1_ := Aside0.mk (hb); have n2_ := Aside0.mk (hi); clear HO259; clear HB; clear HI256; have HO259 := n0_; have HB := n1_; have HI256 := n2_; clear n0_ n1_ n2_; (try clear hb); (try clear hb2); (try clear hk); (try clear hi)))
      go_ret
      exact ⟨_, qq11, qq12 HO259.out, qq5 HB.out HI256.out⟩
  · rw [if_neg c4] at H
    have c4b0 : decide (3 < (t257.length : Int)) = false := decide_eq_false c4
    have c4b1 : decide (3 < t257.length) = false := decide_eq_false (by omega)
    clear c4
    obtain rfl := Option.some.inj H
    go_enter Try.func17, Try.ntmps17
    go_wp2_with (first | ((with_reducible refine gate_callee (f := 42) rfl ?_); refine goesL_ (some 6) rfl rfl Try.func42 (by kernel_rfl) rfl #[.slice A0 l0.length c0] rfl qq2 ?_; (with_reducible refine (spec_l6Open.calls _ _ l0 t254 t255 w _ ?side1 ?side2 ?side3 A2.out).mono ?_); (case side1 => exact qq1); (case side2 => exact HR0.out); (case side3 => exact HC0.out); rintro e w20 ⟨g256, rfl, hi, hb, hb2⟩; refine ⟨_, rfl, ?_⟩; have n0_ := Aside0.mk (hb); have n1_ := Aside0.mk (hi); clear HB; have HB := n0_; have HI256 := n1_; clear n0_ n1_; (try clear hb); (try clear hb2); (try clear hk); (try clear hi)) | ((with_reducible refine gate_callee (f := 41) rfl ?_); refine goesL_ (some 8) rfl rfl Try.func41 (by kernel_rfl) rfl #[.pointer (some ⟨g256, 0, none⟩)] rfl qq2 ?_; (with_reducible refine (spec_l92Poly.calls k g256 t254 t255 t257 t260 w _ ?side1 ?side2 A3.out).mono ?_); (case side1 => exact qq6 HI256.out); (case side2 => exact qq5 HB.out HI256.out); rintro e w21 ⟨v258, rfl, ho0, hi, hb, hk⟩; refine ⟨_, rfl, ?_⟩; have n0_ := Aside0.mk (Kd.Q_lower ho0 (below_size (qq5 HB.out HI256.out))); have n1_ := Aside0.mk (hb); have n2_ := Aside0.mk (hi); clear HB; clear HI256; have HO259 := n0_; have HB := n1_; have HI256 := n2_; clear n0_ n1_ n2_; (try clear hb); (try clear hb2); (try clear hk); (try clear hi); (try clear ho0); obtain ⟨Ao22, co22, eo22, _⟩ := Kd.Q_slice HO259.out; subst eo22))
    go_ret
    exact ⟨_, qq11, qq12 HO259.out, qq5 HB.out HI256.out⟩

end Go.Proofs.Ytgdhgncdpmalcaa.Q
namespace Go.Proofs.Ytgdhgncdpmalcaa.Pure
open Go.RowKit Go.Proofs.Ytgdhgncdpmalcaa.Q Go.Proofs.YtgdhgncdpmalcaaW.PrintWords Go.Proofs.YtgdhgncdpmalcaaW.PrintLast Go.Proofs.YtgdhgncdpmalcaaW.PrintMore

theorem w64 {x : Int} (h0 : -9223372036854775808 ≤ x) (h1 : x ≤ 9223372036854775807) : wrap64 x = x := by
  unfold wrap64; omega

theorem mx_eq (a b : Int) : mx a b = max a b := by unfold mx; split <;> omega
theorem mn_eq (a b : Int) : mn a b = min a b := by unfold mn; split <;> omega

/-- A valid point. -/
def PV (x y : Int) : Bool := decide (-10000 ≤ x ∧ x ≤ 10000 ∧ -10000 ≤ y ∧ y ≤ 10000)
theorem PV_iff {x y : Int} : PV x y = true ↔ (-10000 ≤ x ∧ x ≤ 10000 ∧ -10000 ≤ y ∧ y ≤ 10000) := by simp [PV]

theorem spec_l6In_eq (a b c : Int) : spec_l6In.f a b c = some (decide (b ≤ a ∧ a ≤ c)) := by
  unfold spec_l6In.f
  by_cases h : a ≥ b
  · rw [if_pos h]; congr 1; rw [decide_eq_decide]; omega
  · rw [if_neg h]; congr 1; symm; rw [decide_eq_false_iff_not]; omega

theorem impl_within_eq (a m : Int) (h0 : 0 ≤ m) (h1 : m ≤ 9223372036854775807) : impl_within.f a m = some (decide (-m ≤ a ∧ a ≤ m)) := by
  unfold impl_within.f
  rw [w64 (by omega) (by omega)]
  by_cases h : -m ≤ a
  · rw [if_pos h]; congr 1; rw [decide_eq_decide]; omega
  · rw [if_neg h]; congr 1; symm; rw [decide_eq_false_iff_not]; omega

theorem impl_inRange_eq (x y m : Int) (h0 : 0 ≤ m) (h1 : m ≤ 9223372036854775807) : impl_pair_inRange.f x y m = some (decide (-m ≤ x ∧ x ≤ m ∧ -m ≤ y ∧ y ≤ m)) := by
  simp only [impl_pair_inRange.f, impl_within_eq _ _ h0 h1, Option.bind_some]
  by_cases h : (-m ≤ x ∧ x ≤ m)
  · simp [h]
  · rw [if_neg (by simpa using h)]; congr 1; symm; rw [decide_eq_false_iff_not]; omega

theorem impl_PointValid_eq (x y : Int) : impl_PointValid.f x y = some (PV x y) := by
  simp only [impl_PointValid.f, impl_pairOf.f, Option.bind_some]
  rw [impl_inRange_eq _ _ _ (by omega) (by omega)]
  rfl

theorem mul_bd {x y m n : Int} (hx : -m ≤ x ∧ x ≤ m) (hy : -n ≤ y ∧ y ≤ n) (hm : 0 ≤ m) (hn : 0 ≤ n) : -(m * n) ≤ x * y ∧ x * y ≤ m * n := by
  have h1 : x.natAbs ≤ m.toNat := by omega
  have h2 : y.natAbs ≤ n.toNat := by omega
  have h3 : (x * y).natAbs ≤ m.toNat * n.toNat := by rw [Int.natAbs_mul]; exact Nat.mul_le_mul h1 h2
  have h4 : ((m.toNat * n.toNat : Nat) : Int) = m * n := by rw [Int.natCast_mul, Int.toNat_of_nonneg hm, Int.toNat_of_nonneg hn]
  omega

end Go.Proofs.Ytgdhgncdpmalcaa.Pure
namespace Go.Proofs.Ytgdhgncdpmalcaa.Q
open Go.RowKit Go.Proofs.YtgdhgncdpmalcaaW.PrintWords Go.Proofs.YtgdhgncdpmalcaaW.PrintLast Go.Proofs.YtgdhgncdpmalcaaW.PrintMore
attribute [local go_sem] max2_int min2_int max_two min_two max_three min_three max_four min_four
set_option linter.unusedVariables false
set_option linter.unusedSimpArgs false

/-! ### impl_pair_minus: function 80 -/
def impl_pair_minus.f (a0_0 : Int) (a0_1 : Int) (a1_0 : Int) (a1_1 : Int) : Option (Int × Int) := some (wrap64 (a0_0 - a1_0), wrap64 (a0_1 - a1_1))
set_option maxHeartbeats 8000000 in
set_option maxRecDepth 100000 in
theorem impl_pair_minus.calls (a0_0 : Int) (a0_1 : Int) (a1_0 : Int) (a1_1 : Int) (r1 : Int) (r2 : Int) (w : World) (h : impl_pair_minus.f a0_0 a0_1 a1_0 a1_1 = some (r1, r2)) :
    Calls Try.prog 80 #[.agg #[.int .i64 a0_0, .int .i64 a0_1], .agg #[.int .i64 a1_0, .int .i64 a1_1]] w fun e w' => e = .returned (.agg #[.int .i64 r1, .int .i64 r2]) ∧ Below w.heap.size w w' := by
  have hu66 := Try.underlying66
  have HB := Aside0.mk (Below.refl w.heap.size w)
  have H : (some (wrap64 (a0_0 - a1_0), wrap64 (a0_1 - a1_1))) = some (r1, r2) := h
  clear h
  simp only [Option.some.injEq, Prod.mk.injEq] at H
  obtain ⟨rfl, rfl⟩ := H
  go_enter Try.func80, Try.ntmps80
  go_wp2_with (first | ((with_reducible refine gate_dst (N := 2) rfl ?_); refine box_event ?hg (N := 2) ?hd (cs := #[.int .i64 a0_0, .int .i64 a0_1]) (t := 66) ?hr ?_; (case hd => rfl); (case hg => rfl); (case hr => exact qq21); intro gb265 hg w3 hbox hb; have n0_ := Aside0.mk (below_step qq1 hb); have n1_ := Aside0.mk (hbox); have n2_ := Aside0.mk ((qq31 : w.heap.size ≤ gb265)); have n3_ := Aside0.mk ((qq31 : w.heap.size ≤ gb265)); clear HB; have HB := n0_; have BK265 := n1_; have GW265 := n2_; have GE265 := n3_; clear n0_ n1_ n2_ n3_; clear hb hbox hg) | ((with_reducible refine gate_dst (N := 3) rfl ?_); refine box_event ?hg (N := 3) ?hd (cs := #[.int .i64 a1_0, .int .i64 a1_1]) (t := 66) ?hr ?_; (case hd => rfl); (case hg => rfl); (case hr => exact qq21); intro gb266 hg w4 hbox hb; have n0_ := Aside0.mk (bbl_ BK265.out hb); have n1_ := Aside0.mk (below_step (qq8 HB.out GE265.out) hb); have n2_ := Aside0.mk (hbox); have n3_ := Aside0.mk ((qq34 HB.out GE265.out : w.heap.size ≤ gb266)); have n4_ := Aside0.mk ((qq34 HB.out GE265.out : w.heap.size ≤ gb266)); have n5_ := Aside0.mk ((qq26 BK265.out : gb265 ≠ gb266)); have n6_ := Aside0.mk ((qq27 BK265.out : gb266 ≠ gb265)); clear BK265; clear HB; have BK265 := n0_; have HB := n1_; have BK266 := n2_; have GW266 := n3_; have GE266 := n4_; have NB265_266 := n5_; have NB266_265 := n6_; clear n0_ n1_ n2_ n3_ n4_ n5_ n6_; clear hb hbox hg) | ((with_reducible refine gate_dst (N := 4) rfl ?_); refine box_event ?hg (N := 4) ?hd (cs := #[.int .i64 0, .int .i64 0]) (t := 66) ?hr ?_; (case hd => rfl); (case hg => rfl); (case hr => exact qq21); intro gb267 hg w5 hbox hb; have n0_ := Aside0.mk (bbl_ BK265.out hb); have n1_ := Aside0.mk (bbl_ BK266.out hb); have n2_ := Aside0.mk (below_step (qq10 HB.out GE265.out GE266.out) hb); have n3_ := Aside0.mk (hbox); have n4_ := Aside0.mk ((qq47 HB.out GE265.out GE266.out : w.heap.size ≤ gb267)); have n5_ := Aside0.mk ((qq47 HB.out GE265.out GE266.out : w.heap.size ≤ gb267)); have n6_ := Aside0.mk ((qq26 BK265.out : gb265 ≠ gb267)); have n7_ := Aside0.mk ((qq27 BK265.out : gb267 ≠ gb265)); have n8_ := Aside0.mk ((qq26 BK266.out : gb266 ≠ gb267)); have n9_ := Aside0.mk ((qq27 BK266.out : gb267 ≠ gb266)); clear BK265; clear BK266; clear HB; have BK265 := n0_; have BK266 := n1_; have HB := n2_; have BK267 := n3_; have GW267 := n4_; have GE267 := n5_; have NB265_267 := n6_; have NB267_265 := n7_; have NB266_267 := n8_; have NB267_266 := n9_; clear n0_ n1_ n2_ n3_ n4_ n5_ n6_ n7_ n8_ n9_; clear hb hbox hg; have hnb6 := NB265_266.out; have hnc6 := NB266_265.out; have hnb7 := NB265_267.out; have hnc7 := NB267_265.out; have hcz8_0 : w5.cell? ⟨gb265, 0, none⟩ = some (.int .i64 a0_0) := (blk_cell BK265.out 0).trans rfl; have hcz8_1 : w5.cell? ⟨gb265, 1, none⟩ = some (.int .i64 a0_1) := (blk_cell BK265.out 1).trans rfl; have hfz8_0 := blk_frozen BK265.out 0; have hfz8_1 := blk_frozen BK265.out 1; have hnb9 := NB266_267.out; have hnc9 := NB267_266.out; have hcz10_0 : w5.cell? ⟨gb266, 0, none⟩ = some (.int .i64 a1_0) := (blk_cell BK266.out 0).trans rfl; have hcz10_1 : w5.cell? ⟨gb266, 1, none⟩ = some (.int .i64 a1_1) := (blk_cell BK266.out 1).trans rfl; have hfz10_0 := blk_frozen BK266.out 0; have hfz10_1 := blk_frozen BK266.out 1; have hcz11_0 : w5.cell? ⟨gb267, 0, none⟩ = some (.int .i64 0) := (blk_cell BK267.out 0).trans rfl; have hcz11_1 : w5.cell? ⟨gb267, 1, none⟩ = some (.int .i64 0) := (blk_cell BK267.out 1).trans rfl; have hfz11_0 := blk_frozen BK267.out 0; have hfz11_1 := blk_frozen BK267.out 1))
  refine bodyPost_ret (results_cell_row rfl _ _ gb267 66 #[.int .i64 (wrap64 (a0_0 - a1_0)), .int .i64 (wrap64 (a0_1 - a1_1))] (0, 0) _ rfl (by (with_reducible repeat (first | refine blk_drewN ?_ _ | refine blk_drew ?_ | refine blk_alloc ?_ _)); refine blk_put (cs := #[.int .i64 (wrap64 (a0_0 - a1_0)), .int .i64 0]) ?_ 1 _ rfl; (with_reducible repeat (first | refine blk_drewN ?_ _ | refine blk_drew ?_ | refine blk_alloc ?_ _)); refine blk_put (cs := #[.int .i64 0, .int .i64 0]) ?_ 0 _ rfl; (with_reducible repeat (first | refine blk_drewN ?_ _ | refine blk_drew ?_ | refine blk_alloc ?_ _)); exact BK267.out) Try.underlying66 rfl (by kernel_rfl)) rfl ?_
  exact ⟨qq11, qq7 HB.out GE265.out GE266.out GE267.out⟩

/-! ### impl_between: function 85 -/
def impl_between.f (a0 : Int) (a1 : Int) (a2 : Int) : Option (Bool) := if (mn a0 a1) ≤ a2 then (some (decide (a2 ≤ (mx a0 a1)))) else (some false)
set_option maxHeartbeats 8000000 in
set_option maxRecDepth 100000 in
theorem impl_between.calls (a0 : Int) (a1 : Int) (a2 : Int) (r : Bool) (w : World) (h : impl_between.f a0 a1 a2 = some r) :
    Calls Try.prog 85 #[.int .i64 a0, .int .i64 a1, .int .i64 a2] w fun e w' => e = .returned (.bool r) ∧ Below w.heap.size w w' := by
  have HB := Aside0.mk (Below.refl w.heap.size w)
  have H : (if (mn a0 a1) ≤ a2 then (some (decide (a2 ≤ (mx a0 a1)))) else (some false)) = some r := h
  clear h
  obtain ⟨ji4, hji4⟩ : ∃ j_ : Int, (mn a0 a1) = j_ := ⟨_, rfl⟩
  replace H : (if (ji4) ≤ a2 then (some (decide (a2 ≤ (mx a0 a1)))) else (some false)) = some r := by first | (rw [hji4] at H; exact H) | (simp only [hji4] at H ⊢; exact H)
  have hji4_ : (if a1 < a0 then a1 else a0) = ji4 := hji4
  by_cases c5 : (ji4) ≤ a2
  · rw [if_pos c5] at H
    have c5b0 : decide ((ji4) ≤ a2) = true := decide_eq_true c5
    clear c5
    obtain ⟨ji6, hji6⟩ : ∃ j_ : Int, (mx a0 a1) = j_ := ⟨_, rfl⟩
    replace H : (some (decide (a2 ≤ (ji6)))) = some r := by first | (rw [hji6] at H; exact H) | (simp only [hji6] at H ⊢; exact H)
    have hji6_ : (if a0 < a1 then a1 else a0) = ji6 := hji6
    obtain rfl := Option.some.inj H
    go_enter Try.func85, Try.ntmps85
    go_wp2
    go_ret
    exact ⟨by first | rfl | (simp [errW_none, errW_some] <;> rfl) | (simp only [← hji4, ← hji6]; first | rfl | (simp [errW_none, errW_some] <;> rfl)) | (simp [*, errW_none, errW_some] <;> rfl), qq1⟩
  · rw [if_neg c5] at H
    have c5b0 : decide ((ji4) ≤ a2) = false := decide_eq_false c5
    clear c5
    obtain rfl := Option.some.inj H
    go_enter Try.func85, Try.ntmps85
    go_wp2
    go_ret
    exact ⟨by first | rfl | (simp [errW_none, errW_some] <;> rfl) | (simp only [← hji4]; first | rfl | (simp [errW_none, errW_some] <;> rfl)) | (simp [*, errW_none, errW_some] <;> rfl), qq1⟩

/-! ### spec_l2Cross: function 75 -/
def spec_l2Cross.f (a0_0 : Int) (a0_1 : Int) (a1_0 : Int) (a1_1 : Int) : Option (Int) := some (wrap64 ((wrap64 (a0_0 * a1_1)) - (wrap64 (a0_1 * a1_0))))
set_option maxHeartbeats 8000000 in
set_option maxRecDepth 100000 in
theorem spec_l2Cross.calls (a0_0 : Int) (a0_1 : Int) (a1_0 : Int) (a1_1 : Int) (r : Int) (w : World) (h : spec_l2Cross.f a0_0 a0_1 a1_0 a1_1 = some r) :
    Calls Try.prog 75 #[.agg #[.int .i64 a0_0, .int .i64 a0_1], .agg #[.int .i64 a1_0, .int .i64 a1_1]] w fun e w' => e = .returned (.int .i64 r) ∧ Below w.heap.size w w' := by
  have hu32 := Try.underlying32
  have HB := Aside0.mk (Below.refl w.heap.size w)
  have H : (some (wrap64 ((wrap64 (a0_0 * a1_1)) - (wrap64 (a0_1 * a1_0))))) = some r := h
  clear h
  obtain rfl := Option.some.inj H
  go_enter Try.func75, Try.ntmps75
  go_wp2_with (first | ((with_reducible refine gate_dst (N := 2) rfl ?_); refine box_event ?hg (N := 2) ?hd (cs := #[.int .i64 a0_0, .int .i64 a0_1]) (t := 32) ?hr ?_; (case hd => rfl); (case hg => rfl); (case hr => exact qq21); intro gb295 hg w3 hbox hb; have n0_ := Aside0.mk (below_step qq1 hb); have n1_ := Aside0.mk (hbox); have n2_ := Aside0.mk ((qq31 : w.heap.size ≤ gb295)); have n3_ := Aside0.mk ((qq31 : w.heap.size ≤ gb295)); clear HB; have HB := n0_; have BK295 := n1_; have GW295 := n2_; have GE295 := n3_; clear n0_ n1_ n2_ n3_; clear hb hbox hg) | ((with_reducible refine gate_dst (N := 3) rfl ?_); refine box_event ?hg (N := 3) ?hd (cs := #[.int .i64 a1_0, .int .i64 a1_1]) (t := 32) ?hr ?_; (case hd => rfl); (case hg => rfl); (case hr => exact qq21); intro gb296 hg w4 hbox hb; have n0_ := Aside0.mk (bbl_ BK295.out hb); have n1_ := Aside0.mk (below_step (qq8 HB.out GE295.out) hb); have n2_ := Aside0.mk (hbox); have n3_ := Aside0.mk ((qq34 HB.out GE295.out : w.heap.size ≤ gb296)); have n4_ := Aside0.mk ((qq34 HB.out GE295.out : w.heap.size ≤ gb296)); have n5_ := Aside0.mk ((qq26 BK295.out : gb295 ≠ gb296)); have n6_ := Aside0.mk ((qq27 BK295.out : gb296 ≠ gb295)); clear BK295; clear HB; have BK295 := n0_; have HB := n1_; have BK296 := n2_; have GW296 := n3_; have GE296 := n4_; have NB295_296 := n5_; have NB296_295 := n6_; clear n0_ n1_ n2_ n3_ n4_ n5_ n6_; clear hb hbox hg; have hnb5 := NB295_296.out; have hnc5 := NB296_295.out; have hcz6_0 : w4.cell? ⟨gb295, 0, none⟩ = some (.int .i64 a0_0) := (blk_cell BK295.out 0).trans rfl; have hcz6_1 : w4.cell? ⟨gb295, 1, none⟩ = some (.int .i64 a0_1) := (blk_cell BK295.out 1).trans rfl; have hfz6_0 := blk_frozen BK295.out 0; have hfz6_1 := blk_frozen BK295.out 1; have hcz7_0 : w4.cell? ⟨gb296, 0, none⟩ = some (.int .i64 a1_0) := (blk_cell BK296.out 0).trans rfl; have hcz7_1 : w4.cell? ⟨gb296, 1, none⟩ = some (.int .i64 a1_1) := (blk_cell BK296.out 1).trans rfl; have hfz7_0 := blk_frozen BK296.out 0; have hfz7_1 := blk_frozen BK296.out 1))
  go_ret
  exact ⟨qq11, qq10 HB.out GE295.out GE296.out⟩

/-! ### spec_l2Step: function 77 -/
def spec_l2Step.f (a0_0 : Int) (a0_1 : Int) (a1_0 : Int) (a1_1 : Int) : Option (Int × Int) := some (wrap64 (a1_0 - a0_0), wrap64 (a1_1 - a0_1))
set_option maxHeartbeats 8000000 in
set_option maxRecDepth 100000 in
theorem spec_l2Step.calls (a0_0 : Int) (a0_1 : Int) (a1_0 : Int) (a1_1 : Int) (r1 : Int) (r2 : Int) (w : World) (h : spec_l2Step.f a0_0 a0_1 a1_0 a1_1 = some (r1, r2)) :
    Calls Try.prog 77 #[.agg #[.int .i64 a0_0, .int .i64 a0_1], .agg #[.int .i64 a1_0, .int .i64 a1_1]] w fun e w' => e = .returned (.agg #[.int .i64 r1, .int .i64 r2]) ∧ Below w.heap.size w w' := by
  have hu32 := Try.underlying32
  have HB := Aside0.mk (Below.refl w.heap.size w)
  have H : (some (wrap64 (a1_0 - a0_0), wrap64 (a1_1 - a0_1))) = some (r1, r2) := h
  clear h
  simp only [Option.some.injEq, Prod.mk.injEq] at H
  obtain ⟨rfl, rfl⟩ := H
  go_enter Try.func77, Try.ntmps77
  go_wp2_with (first | ((with_reducible refine gate_dst (N := 2) rfl ?_); refine box_event ?hg (N := 2) ?hd (cs := #[.int .i64 a0_0, .int .i64 a0_1]) (t := 32) ?hr ?_; (case hd => rfl); (case hg => rfl); (case hr => exact qq21); intro gb297 hg w3 hbox hb; have n0_ := Aside0.mk (below_step qq1 hb); have n1_ := Aside0.mk (hbox); have n2_ := Aside0.mk ((qq31 : w.heap.size ≤ gb297)); have n3_ := Aside0.mk ((qq31 : w.heap.size ≤ gb297)); clear HB; have HB := n0_; have BK297 := n1_; have GW297 := n2_; have GE297 := n3_; clear n0_ n1_ n2_ n3_; clear hb hbox hg) | ((with_reducible refine gate_dst (N := 3) rfl ?_); refine box_event ?hg (N := 3) ?hd (cs := #[.int .i64 a1_0, .int .i64 a1_1]) (t := 32) ?hr ?_; (case hd => rfl); (case hg => rfl); (case hr => exact qq21); intro gb298 hg w4 hbox hb; have n0_ := Aside0.mk (bbl_ BK297.out hb); have n1_ := Aside0.mk (below_step (qq8 HB.out GE297.out) hb); have n2_ := Aside0.mk (hbox); have n3_ := Aside0.mk ((qq34 HB.out GE297.out : w.heap.size ≤ gb298)); have n4_ := Aside0.mk ((qq34 HB.out GE297.out : w.heap.size ≤ gb298)); have n5_ := Aside0.mk ((qq26 BK297.out : gb297 ≠ gb298)); have n6_ := Aside0.mk ((qq27 BK297.out : gb298 ≠ gb297)); clear BK297; clear HB; have BK297 := n0_; have HB := n1_; have BK298 := n2_; have GW298 := n3_; have GE298 := n4_; have NB297_298 := n5_; have NB298_297 := n6_; clear n0_ n1_ n2_ n3_ n4_ n5_ n6_; clear hb hbox hg) | ((with_reducible refine gate_dst (N := 4) rfl ?_); refine box_event ?hg (N := 4) ?hd (cs := #[.int .i64 0, .int .i64 0]) (t := 32) ?hr ?_; (case hd => rfl); (case hg => rfl); (case hr => exact qq21); intro gb299 hg w5 hbox hb; have n0_ := Aside0.mk (bbl_ BK297.out hb); have n1_ := Aside0.mk (bbl_ BK298.out hb); have n2_ := Aside0.mk (below_step (qq10 HB.out GE297.out GE298.out) hb); have n3_ := Aside0.mk (hbox); have n4_ := Aside0.mk ((qq47 HB.out GE297.out GE298.out : w.heap.size ≤ gb299)); have n5_ := Aside0.mk ((qq47 HB.out GE297.out GE298.out : w.heap.size ≤ gb299)); have n6_ := Aside0.mk ((qq26 BK297.out : gb297 ≠ gb299)); have n7_ := Aside0.mk ((qq27 BK297.out : gb299 ≠ gb297)); have n8_ := Aside0.mk ((qq26 BK298.out : gb298 ≠ gb299)); have n9_ := Aside0.mk ((qq27 BK298.out : gb299 ≠ gb298)); clear BK297; clear BK298; clear HB; have BK297 := n0_; have BK298 := n1_; have HB := n2_; have BK299 := n3_; have GW299 := n4_; have GE299 := n5_; have NB297_299 := n6_; have NB299_297 := n7_; have NB298_299 := n8_; have NB299_298 := n9_; clear n0_ n1_ n2_ n3_ n4_ n5_ n6_ n7_ n8_ n9_; clear hb hbox hg; have hnb6 := NB298_297.out; have hnc6 := NB297_298.out; have hnb7 := NB298_299.out; have hnc7 := NB299_298.out; have hcz8_0 : w5.cell? ⟨gb298, 0, none⟩ = some (.int .i64 a1_0) := (blk_cell BK298.out 0).trans rfl; have hcz8_1 : w5.cell? ⟨gb298, 1, none⟩ = some (.int .i64 a1_1) := (blk_cell BK298.out 1).trans rfl; have hfz8_0 := blk_frozen BK298.out 0; have hfz8_1 := blk_frozen BK298.out 1; have hnb9 := NB297_299.out; have hnc9 := NB299_297.out; have hcz10_0 : w5.cell? ⟨gb297, 0, none⟩ = some (.int .i64 a0_0) := (blk_cell BK297.out 0).trans rfl; have hcz10_1 : w5.cell? ⟨gb297, 1, none⟩ = some (.int .i64 a0_1) := (blk_cell BK297.out 1).trans rfl; have hfz10_0 := blk_frozen BK297.out 0; have hfz10_1 := blk_frozen BK297.out 1; have hcz11_0 : w5.cell? ⟨gb299, 0, none⟩ = some (.int .i64 0) := (blk_cell BK299.out 0).trans rfl; have hcz11_1 : w5.cell? ⟨gb299, 1, none⟩ = some (.int .i64 0) := (blk_cell BK299.out 1).trans rfl; have hfz11_0 := blk_frozen BK299.out 0; have hfz11_1 := blk_frozen BK299.out 1))
  refine bodyPost_ret (results_cell_row rfl _ _ gb299 32 #[.int .i64 (wrap64 (a1_0 - a0_0)), .int .i64 (wrap64 (a1_1 - a0_1))] (0, 0) _ rfl (by (with_reducible repeat (first | refine blk_drewN ?_ _ | refine blk_drew ?_ | refine blk_alloc ?_ _)); refine blk_put (cs := #[.int .i64 (wrap64 (a1_0 - a0_0)), .int .i64 0]) ?_ 1 _ rfl; (with_reducible repeat (first | refine blk_drewN ?_ _ | refine blk_drew ?_ | refine blk_alloc ?_ _)); refine blk_put (cs := #[.int .i64 0, .int .i64 0]) ?_ 0 _ rfl; (with_reducible repeat (first | refine blk_drewN ?_ _ | refine blk_drew ?_ | refine blk_alloc ?_ _)); exact BK299.out) Try.underlying32 rfl (by kernel_rfl)) rfl ?_
  exact ⟨qq11, qq7 HB.out GE297.out GE298.out GE299.out⟩

/-! ### spec_l1Sign: function 63 -/
def spec_l1Sign.f (a0 : Int) : Option (Int) := some (mx (-1) (mn 1 a0))
set_option maxHeartbeats 8000000 in
set_option maxRecDepth 100000 in
theorem spec_l1Sign.calls (a0 : Int) (r : Int) (w : World) (h : spec_l1Sign.f a0 = some r) :
    Calls Try.prog 63 #[.int .i64 a0] w fun e w' => e = .returned (.int .i64 r) ∧ Below w.heap.size w w' := by
  have HB := Aside0.mk (Below.refl w.heap.size w)
  have H : (some (mx (-1) (mn 1 a0))) = some r := h
  clear h
  obtain ⟨ji2, hji2⟩ : ∃ j_ : Int, (mn 1 a0) = j_ := ⟨_, rfl⟩
  replace H : (some (mx (-1) (ji2))) = some r := by first | (rw [hji2] at H; exact H) | (simp only [hji2] at H ⊢; exact H)
  (try (have hji2h : ji2 ≤ 1 := by (rw [← hji2]; unfold mn; (repeat' split) <;> omega)))
  (try (have hji2g : ji2 ≤ 64 := by omega))
  have hji2_ : (if a0 < 1 then a0 else 1) = ji2 := hji2
  obtain ⟨ji3, hji3⟩ : ∃ j_ : Int, (mx (-1) (ji2)) = j_ := ⟨_, rfl⟩
  replace H : (some ji3) = some r := by first | (rw [hji3] at H; exact H) | (simp only [hji3] at H ⊢; exact H)
  have hji3_ : (if (-1) < (ji2) then (ji2) else (-1)) = ji3 := hji3
  obtain rfl := Option.some.inj H
  go_enter Try.func63, Try.ntmps63
  go_wp2
  go_ret
  exact ⟨by first | rfl | (simp [errW_none, errW_some] <;> rfl) | (simp only [← hji2, ← hji3]; first | rfl | (simp [errW_none, errW_some] <;> rfl)) | (simp [*, errW_none, errW_some] <;> rfl), qq1⟩

end Go.Proofs.Ytgdhgncdpmalcaa.Q
namespace Go.Proofs.Ytgdhgncdpmalcaa.Q
open Go.RowKit Go.Proofs.YtgdhgncdpmalcaaW.PrintWords Go.Proofs.YtgdhgncdpmalcaaW.PrintLast Go.Proofs.YtgdhgncdpmalcaaW.PrintMore
attribute [local go_sem] max2_int min2_int max_two min_two max_three min_three max_four min_four
set_option linter.unusedVariables false
set_option linter.unusedSimpArgs false

/-! ### impl_PointSide: function 62 -/
def impl_PointSide.j0 : Nat → Bool → Int → Int → Int → Int → Int → Int → Option (Int × Bool)
  | 0, _, _, _, _, _, _, _ => none
  | k + 1, x22, x269000, x269001, x270000, x270001, x271000, x271001 => if x22 = true then (some (0, false)) else ((impl_pairOf.f x269000 x269001).bind fun bt274 => ((impl_pairOf.f x270000 x270001).bind fun bt277 => ((impl_pair_minus.f bt277.1 bt277.2 bt274.1 bt274.2).bind fun bt279 => ((impl_pairOf.f x271000 x271001).bind fun bt282 => ((impl_pair_minus.f bt282.1 bt282.2 bt274.1 bt274.2).bind fun bt284 => ((impl_pair_cross.f bt279.1 bt279.2 bt284.1 bt284.2).bind fun t286 => ((impl_signInt.f t286).bind fun t287 => (some (t287, true)))))))))
def impl_PointSide.f (k : Nat) (a0_0 : Int) (a0_1 : Int) (a1_0 : Int) (a1_1 : Int) (a2_0 : Int) (a2_1 : Int) : Option (Int × Bool) := (impl_PointValid.f a0_0 a0_1).bind fun t271 => (if t271 = true then ((impl_PointValid.f a1_0 a1_1).bind fun t272 => (if t272 = true then ((impl_PointValid.f a2_0 a2_1).bind fun t273 => (impl_PointSide.j0 k (!t273) a0_0 a0_1 a1_0 a1_1 a2_0 a2_1)) else (impl_PointSide.j0 k true a0_0 a0_1 a1_0 a1_1 a2_0 a2_1))) else (impl_PointSide.j0 k true a0_0 a0_1 a1_0 a1_1 a2_0 a2_1))
def impl_PointSide.T5 : Bool × List (List Nat × List Nat) := (true, [([], []), ([], []), ([1], [1]), ([], []), ([2, 3, 2], [2, 3]), ([0, 4, 4], [0, 4]), ([5, 5], [5]), ([6, 6, 0, 1, 2, 3, 4, 5, 6], [6]), ([7, 0, 1, 2, 3, 4, 5, 6, 7], [])])
def impl_PointSide.B5 : List Nat := [0, 0, 2, 0, 14, 31, 63, 127, 255]
theorem impl_PointSide.tab5 : rtab .any (opsOf Try.f62 5) = impl_PointSide.T5 := by kernel_rfl
theorem impl_PointSide.bits5 : waitsOk impl_PointSide.T5.2 impl_PointSide.B5 = true := by kernel_rfl
set_option maxHeartbeats 8000000 in
set_option maxRecDepth 100000 in
theorem impl_PointSide.calls (k : Nat) (a0_0 : Int) (a0_1 : Int) (a1_0 : Int) (a1_1 : Int) (a2_0 : Int) (a2_1 : Int) (r1 : Int) (r2 : Bool) (w : World) (h : impl_PointSide.f k a0_0 a0_1 a1_0 a1_1 a2_0 a2_1 = some (r1, r2)) :
    Calls Try.prog 62 #[.agg #[.int .i64 a0_0, .int .i64 a0_1], .agg #[.int .i64 a1_0, .int .i64 a1_1], .agg #[.int .i64 a2_0, .int .i64 a2_1]] w fun e w' => e = .returned (.tuple #[.int .i64 r1, .bool r2]) ∧ Below w.heap.size w w' := by
  have hu32 := Try.underlying32
  have hu66 := Try.underlying66
  have HB := Aside0.mk (Below.refl w.heap.size w)
  have H : ((impl_PointValid.f a0_0 a0_1).bind fun t271 => (if t271 = true then ((impl_PointValid.f a1_0 a1_1).bind fun t272 => (if t272 = true then ((impl_PointValid.f a2_0 a2_1).bind fun t273 => (impl_PointSide.j0 k (!t273) a0_0 a0_1 a1_0 a1_1 a2_0 a2_1)) else (impl_PointSide.j0 k true a0_0 a0_1 a1_0 a1_1 a2_0 a2_1))) else (impl_PointSide.j0 k true a0_0 a0_1 a1_0 a1_1 a2_0 a2_1))) = some (r1, r2) := h
  clear h
  have HC4 := Aside0.mk H
  clear H
  go_enter Try.func62, Try.ntmps62
  go_upto_region 1 with (first | ((with_reducible refine gate_dst (N := 3) rfl ?_); refine box_event ?hg (N := 3) ?hd (cs := #[.int .i64 a0_0, .int .i64 a0_1]) (t := 32) ?hr ?_; (case hd => rfl); (case hg => rfl); (case hr => exact qq21); intro gb268 hg w5 hbox hb; have n0_ := Aside0.mk (below_step qq1 hb); have n1_ := Aside0.mk (hbox); have n2_ := Aside0.mk ((qq31 : w.heap.size ≤ gb268)); have n3_ := Aside0.mk ((qq31 : w.heap.size ≤ gb268)); clear HB; have HB := n0_; have BK268 := n1_; have GW268 := n2_; have GE268 := n3_; clear n0_ n1_ n2_ n3_; clear hb hbox hg) | ((with_reducible refine gate_dst (N := 4) rfl ?_); refine box_event ?hg (N := 4) ?hd (cs := #[.int .i64 a1_0, .int .i64 a1_1]) (t := 32) ?hr ?_; (case hd => rfl); (case hg => rfl); (case hr => exact qq21); intro gb269 hg w6 hbox hb; have n0_ := Aside0.mk (bbl_ BK268.out hb); have n1_ := Aside0.mk (below_step (qq8 HB.out GE268.out) hb); have n2_ := Aside0.mk (hbox); have n3_ := Aside0.mk ((qq34 HB.out GE268.out : w.heap.size ≤ gb269)); have n4_ := Aside0.mk ((qq34 HB.out GE268.out : w.heap.size ≤ gb269)); have n5_ := Aside0.mk ((qq26 BK268.out : gb268 ≠ gb269)); have n6_ := Aside0.mk ((qq27 BK268.out : gb269 ≠ gb268)); clear BK268; clear HB; have BK268 := n0_; have HB := n1_; have BK269 := n2_; have GW269 := n3_; have GE269 := n4_; have NB268_269 := n5_; have NB269_268 := n6_; clear n0_ n1_ n2_ n3_ n4_ n5_ n6_; clear hb hbox hg) | ((with_reducible refine gate_dst (N := 5) rfl ?_); refine box_event ?hg (N := 5) ?hd (cs := #[.int .i64 a2_0, .int .i64 a2_1]) (t := 32) ?hr ?_; (case hd => rfl); (case hg => rfl); (case hr => exact qq21); intro gb270 hg w7 hbox hb; have n0_ := Aside0.mk (bbl_ BK268.out hb); have n1_ := Aside0.mk (bbl_ BK269.out hb); have n2_ := Aside0.mk (below_step (qq10 HB.out GE268.out GE269.out) hb); have n3_ := Aside0.mk (hbox); have n4_ := Aside0.mk ((qq47 HB.out GE268.out GE269.out : w.heap.size ≤ gb270)); have n5_ := Aside0.mk ((qq47 HB.out GE268.out GE269.out : w.heap.size ≤ gb270)); have n6_ := Aside0.mk ((qq26 BK268.out : gb268 ≠ gb270)); have n7_ := Aside0.mk ((qq27 BK268.out : gb270 ≠ gb268)); have n8_ := Aside0.mk ((qq26 BK269.out : gb269 ≠ gb270)); have n9_ := Aside0.mk ((qq27 BK269.out : gb270 ≠ gb269)); clear BK268; clear BK269; clear HB; have BK268 := n0_; have BK269 := n1_; have HB := n2_; have BK270 := n3_; have GW270 := n4_; have GE270 := n5_; have NB268_270 := n6_; have NB270_268 := n7_; have NB269_270 := n8_; have NB270_269 := n9_; clear n0_ n1_ n2_ n3_ n4_ n5_ n6_ n7_ n8_ n9_; clear hb hbox hg))
  (try simp only [Act.put, List.setIfInBounds_toArray, List.set_cons_zero, List.set_cons_succ])
  go_cut [22] (fun v22 wc => ∃ (kq : Nat) (x22_3 : Bool), v22 = .bool x22_3 ∧ Aside0 (impl_PointSide.j0 kq x22_3 a0_0 a0_1 a1_0 a1_1 a2_0 a2_1 = some (r1, r2)) ∧ Aside0 (kq ≤ k) ∧ Aside0 (wc.heap[gb268]? = some (.cells #[.int .i64 a0_0, .int .i64 a0_1] 32 (0, 0))) ∧ Aside0 (wc.heap[gb269]? = some (.cells #[.int .i64 a1_0, .int .i64 a1_1] 32 (0, 0))) ∧ Aside0 (wc.heap[gb270]? = some (.cells #[.int .i64 a2_0, .int .i64 a2_1] 32 (0, 0))) ∧ Aside0 (Below w.heap.size w wc))
  case first =>
    have H := HC4.out
    clear HC4
    replace H := Option.bind_eq_some_iff.mp H
    obtain ⟨t271, A80, H⟩ := H
    replace H : (if t271 = true then ((impl_PointValid.f a1_0 a1_1).bind fun t272 => (if t272 = true then ((impl_PointValid.f a2_0 a2_1).bind fun t273 => (impl_PointSide.j0 k (!t273) a0_0 a0_1 a1_0 a1_1 a2_0 a2_1)) else (impl_PointSide.j0 k true a0_0 a0_1 a1_0 a1_1 a2_0 a2_1))) else (impl_PointSide.j0 k true a0_0 a0_1 a1_0 a1_1 a2_0 a2_1)) = some (r1, r2) := H
    have A8 := Aside0.mk A80
    clear A80
    by_cases c9 : t271 = true
    · subst c9
      have H1 : ((impl_PointValid.f a1_0 a1_1).bind fun t272 => (if t272 = true then ((impl_PointValid.f a2_0 a2_1).bind fun t273 => (impl_PointSide.j0 k (!t273) a0_0 a0_1 a1_0 a1_1 a2_0 a2_1)) else (impl_PointSide.j0 k true a0_0 a0_1 a1_0 a1_1 a2_0 a2_1))) = some (r1, r2) := by rw [if_pos rfl] at H; exact H
      clear H
      have H := H1
      clear H1
      replace H := Option.bind_eq_some_iff.mp H
      obtain ⟨t272, A100, H⟩ := H
      replace H : (if t272 = true then ((impl_PointValid.f a2_0 a2_1).bind fun t273 => (impl_PointSide.j0 k (!t273) a0_0 a0_1 a1_0 a1_1 a2_0 a2_1)) else (impl_PointSide.j0 k true a0_0 a0_1 a1_0 a1_1 a2_0 a2_1)) = some (r1, r2) := H
      have A10 := Aside0.mk A100
      clear A100
      by_cases c11 : t272 = true
      · subst c11
        have H1 : ((impl_PointValid.f a2_0 a2_1).bind fun t273 => (impl_PointSide.j0 k (!t273) a0_0 a0_1 a1_0 a1_1 a2_0 a2_1)) = some (r1, r2) := by rw [if_pos rfl] at H; exact H
        clear H
        have H := H1
        clear H1
        replace H := Option.bind_eq_some_iff.mp H
        obtain ⟨t273, A120, H⟩ := H
        replace H : (impl_PointSide.j0 k (!t273) a0_0 a0_1 a1_0 a1_1 a2_0 a2_1) = some (r1, r2) := H
        have A12 := Aside0.mk A120
        clear A120
        have H' := Aside0.mk H
        clear H
        have hnb13 := NB268_269.out
        have hnc13 := NB269_268.out
        have hnb14 := NB268_270.out
        have hnc14 := NB270_268.out
        have hcz15_0 : w7.cell? ⟨gb268, 0, none⟩ = some (.int .i64 a0_0) := (blk_cell BK268.out 0).trans rfl
        have hcz15_1 : w7.cell? ⟨gb268, 1, none⟩ = some (.int .i64 a0_1) := (blk_cell BK268.out 1).trans rfl
        have hfz15_0 := blk_frozen BK268.out 0
        have hfz15_1 := blk_frozen BK268.out 1
        go_wp2_with (first | ((with_reducible refine gate_callee (f := 23) rfl ?_); refine goesL_ (some 11) rfl rfl Try.func23 (by kernel_rfl) rfl #[.agg #[.int .i64 a0_0, .int .i64 a0_1]] rfl qq2 ?_; (with_reducible refine (impl_PointValid.calls a0_0 a0_1 true _ A8.out).mono ?_); rintro e w16 ⟨rfl, hb⟩; refine ⟨_, rfl, ?_⟩; have n0_ := Aside0.mk (bbl_ BK268.out hb); have n1_ := Aside0.mk (bbl_ BK269.out hb); have n2_ := Aside0.mk (bbl_ BK270.out hb); have n3_ := Aside0.mk (below_step (qq7 HB.out GE268.out GE269.out GE270.out) hb); clear BK268; clear BK269; clear BK270; clear HB; have BK268 := n0_; have BK269 := n1_; have BK270 := n2_; have HB := n3_; clear n0_ n1_ n2_ n3_; (try clear hb); (try clear hb2); (try clear hk); (try clear hi); have hnb17 := NB269_270.out; have hnc17 := NB270_269.out; have hcz18_0 : w16.cell? ⟨gb269, 0, none⟩ = some (.int .i64 a1_0) := (blk_cell BK269.out 0).trans rfl; have hcz18_1 : w16.cell? ⟨gb269, 1, none⟩ = some (.int .i64 a1_1) := (blk_cell BK269.out 1).trans rfl; have hfz18_0 := blk_frozen BK269.out 0; have hfz18_1 := blk_frozen BK269.out 1) | (go_at_call 23; (with_reducible refine (impl_PointValid.calls a1_0 a1_1 true _ A10.out).mono ?_); rintro e w19 ⟨rfl, hb⟩; have n0_ := Aside0.mk (bbl_ BK268.out hb); have n1_ := Aside0.mk (bbl_ BK269.out hb); have n2_ := Aside0.mk (bbl_ BK270.out hb); have n3_ := Aside0.mk (below_step (qq7 HB.out GE268.out GE269.out GE270.out) hb); clear BK268; clear BK269; clear BK270; clear HB; have BK268 := n0_; have BK269 := n1_; have BK270 := n2_; have HB := n3_; clear n0_ n1_ n2_ n3_; (try clear hb); (try clear hb2); (try clear hk); (try clear hi); have hcz20_0 : w19.cell? ⟨gb270, 0, none⟩ = some (.int .i64 a2_0) := (blk_cell BK270.out 0).trans rfl; have hcz20_1 : w19.cell? ⟨gb270, 1, none⟩ = some (.int .i64 a2_1) := (blk_cell BK270.out 1).trans rfl; have hfz20_0 := blk_frozen BK270.out 0; have hfz20_1 := blk_frozen BK270.out 1) | (go_at_call 23; (with_reducible refine (impl_PointValid.calls a2_0 a2_1 t273 _ A12.out).mono ?_); rintro e w21 ⟨rfl, hb⟩; have n0_ := Aside0.mk (bbl_ BK268.out hb); have n1_ := Aside0.mk (bbl_ BK269.out hb); have n2_ := Aside0.mk (bbl_ BK270.out hb); have n3_ := Aside0.mk (below_step (qq7 HB.out GE268.out GE269.out GE270.out) hb); clear BK268; clear BK269; clear BK270; clear HB; have BK268 := n0_; have BK269 := n1_; have BK270 := n2_; have HB := n3_; clear n0_ n1_ n2_ n3_; (try clear hb); (try clear hb2); (try clear hk); (try clear hi)))
        go_meet
        case rel => exact ⟨_, (!t273), qq23, H', ⟨qq46⟩, ⟨qq9 BK268.out⟩, ⟨qq9 BK269.out⟩, ⟨qq9 BK270.out⟩, ⟨qq7 HB.out GE268.out GE269.out GE270.out⟩⟩
      · replace c11 := Bool.eq_false_iff.mpr c11
        subst c11
        have H1 : (impl_PointSide.j0 k true a0_0 a0_1 a1_0 a1_1 a2_0 a2_1) = some (r1, r2) := by rw [if_neg (show ¬ (false = true) by decide)] at H; exact H
        clear H
        have H := H1
        clear H1
        have H' := Aside0.mk H
        clear H
        have hnb22 := NB268_269.out
        have hnc22 := NB269_268.out
        have hnb23 := NB268_270.out
        have hnc23 := NB270_268.out
        have hcz24_0 : w7.cell? ⟨gb268, 0, none⟩ = some (.int .i64 a0_0) := (blk_cell BK268.out 0).trans rfl
        have hcz24_1 : w7.cell? ⟨gb268, 1, none⟩ = some (.int .i64 a0_1) := (blk_cell BK268.out 1).trans rfl
        have hfz24_0 := blk_frozen BK268.out 0
        have hfz24_1 := blk_frozen BK268.out 1
        go_wp2_with (first | ((with_reducible refine gate_callee (f := 23) rfl ?_); refine goesL_ (some 11) rfl rfl Try.func23 (by kernel_rfl) rfl #[.agg #[.int .i64 a0_0, .int .i64 a0_1]] rfl qq2 ?_; (with_reducible refine (impl_PointValid.calls a0_0 a0_1 true _ A8.out).mono ?_); rintro e w25 ⟨rfl, hb⟩; refine ⟨_, rfl, ?_⟩; have n0_ := Aside0.mk (bbl_ BK268.out hb); have n1_ := Aside0.mk (bbl_ BK269.out hb); have n2_ := Aside0.mk (bbl_ BK270.out hb); have n3_ := Aside0.mk (below_step (qq7 HB.out GE268.out GE269.out GE270.out) hb); clear BK268; clear BK269; clear BK270; clear HB; have BK268 := n0_; have BK269 := n1_; have BK270 := n2_; have HB := n3_; clear n0_ n1_ n2_ n3_; (try clear hb); (try clear hb2); (try clear hk); (try clear hi); have hnb26 := NB269_270.out; have hnc26 := NB270_269.out; have hcz27_0 : w25.cell? ⟨gb269, 0, none⟩ = some (.int .i64 a1_0) := (blk_cell BK269.out 0).trans rfl; have hcz27_1 : w25.cell? ⟨gb269, 1, none⟩ = some (.int .i64 a1_1) := (blk_cell BK269.out 1).trans rfl; have hfz27_0 := blk_frozen BK269.out 0; have hfz27_1 := blk_frozen BK269.out 1) | (go_at_call 23; (with_reducible refine (impl_PointValid.calls a1_0 a1_1 false _ A10.out).mono ?_); rintro e w28 ⟨rfl, hb⟩; have n0_ := Aside0.mk (bbl_ BK268.out hb); have n1_ := Aside0.mk (bbl_ BK269.out hb); have n2_ := Aside0.mk (bbl_ BK270.out hb); have n3_ := Aside0.mk (below_step (qq7 HB.out GE268.out GE269.out GE270.out) hb); clear BK268; clear BK269; clear BK270; clear HB; have BK268 := n0_; have BK269 := n1_; have BK270 := n2_; have HB := n3_; clear n0_ n1_ n2_ n3_; (try clear hb); (try clear hb2); (try clear hk); (try clear hi)))
        go_meet
        case rel => exact ⟨_, (true), qq23, H', ⟨qq46⟩, ⟨qq9 BK268.out⟩, ⟨qq9 BK269.out⟩, ⟨qq9 BK270.out⟩, ⟨qq7 HB.out GE268.out GE269.out GE270.out⟩⟩
    · replace c9 := Bool.eq_false_iff.mpr c9
      subst c9
      have H1 : (impl_PointSide.j0 k true a0_0 a0_1 a1_0 a1_1 a2_0 a2_1) = some (r1, r2) := by rw [if_neg (show ¬ (false = true) by decide)] at H; exact H
      clear H
      have H := H1
      clear H1
      have H' := Aside0.mk H
      clear H
      have hnb29 := NB268_269.out
      have hnc29 := NB269_268.out
      have hnb30 := NB268_270.out
      have hnc30 := NB270_268.out
      have hcz31_0 : w7.cell? ⟨gb268, 0, none⟩ = some (.int .i64 a0_0) := (blk_cell BK268.out 0).trans rfl
      have hcz31_1 : w7.cell? ⟨gb268, 1, none⟩ = some (.int .i64 a0_1) := (blk_cell BK268.out 1).trans rfl
      have hfz31_0 := blk_frozen BK268.out 0
      have hfz31_1 := blk_frozen BK268.out 1
      go_wp2_with (first | ((with_reducible refine gate_callee (f := 23) rfl ?_); refine goesL_ (some 11) rfl rfl Try.func23 (by kernel_rfl) rfl #[.agg #[.int .i64 a0_0, .int .i64 a0_1]] rfl qq2 ?_; (with_reducible refine (impl_PointValid.calls a0_0 a0_1 false _ A8.out).mono ?_); rintro e w32 ⟨rfl, hb⟩; refine ⟨_, rfl, ?_⟩; have n0_ := Aside0.mk (bbl_ BK268.out hb); have n1_ := Aside0.mk (bbl_ BK269.out hb); have n2_ := Aside0.mk (bbl_ BK270.out hb); have n3_ := Aside0.mk (below_step (qq7 HB.out GE268.out GE269.out GE270.out) hb); clear BK268; clear BK269; clear BK270; clear HB; have BK268 := n0_; have BK269 := n1_; have BK270 := n2_; have HB := n3_; clear n0_ n1_ n2_ n3_; (try clear hb); (try clear hb2); (try clear hk); (try clear hi)))
      go_meet
      case rel => exact ⟨_, (true), qq23, H', ⟨qq46⟩, ⟨qq9 BK268.out⟩, ⟨qq9 BK269.out⟩, ⟨qq9 BK270.out⟩, ⟨qq7 HB.out GE268.out GE269.out GE270.out⟩⟩
  case rest =>
    clear HC4
    try clear c1
    try clear c2
    try clear p2
    try clear c3
    try clear c6
    try clear c9
    try clear c11
    try clear c13
    try clear c14
    try clear c17
    try clear c22
    try clear c23
    try clear c26
    try clear c29
    try clear c30
    try clear hcz15_0
    try clear hcz15_1
    try clear hcz18_0
    try clear hcz18_1
    try clear hcz20_0
    try clear hcz20_1
    try clear hcz24_0
    try clear hcz24_1
    try clear hcz27_0
    try clear hcz27_1
    try clear hcz31_0
    try clear hcz31_1
    try clear hfz15_0
    try clear hfz15_1
    try clear hfz18_0
    try clear hfz18_1
    try clear hfz20_0
    try clear hfz20_1
    try clear hfz24_0
    try clear hfz24_1
    try clear hfz27_0
    try clear hfz27_1
    try clear hfz31_0
    try clear hfz31_1
    obtain ⟨kq, x22_3, rfl, HA, HJ3, BK268, BK269, BK270, HB⟩ := hcut
    cases kq with
    | zero => exact absurd HA.out (by simp [impl_PointSide.j0])
    | succ kj3 =>
      have H := HA.out
      clear HA
      simp only [impl_PointSide.j0] at H
      by_cases c33 : x22_3 = true
      · subst c33
        have H1 : (some (0, false)) = some (r1, r2) := by rw [if_pos rfl] at H; exact H
        clear H
        have H := H1
        clear H1
        simp only [Option.some.injEq, Prod.mk.injEq] at H
        obtain ⟨rfl, rfl⟩ := H
        go_wp2
        go_ret2
        exact ⟨qq11, qq7 HB.out GE268.out GE269.out GE270.out⟩
      · replace c33 := Bool.eq_false_iff.mpr c33
        subst c33
        have H1 : ((impl_pairOf.f a0_0 a0_1).bind fun bt274 => ((impl_pairOf.f a1_0 a1_1).bind fun bt277 => ((impl_pair_minus.f bt277.1 bt277.2 bt274.1 bt274.2).bind fun bt279 => ((impl_pairOf.f a2_0 a2_1).bind fun bt282 => ((impl_pair_minus.f bt282.1 bt282.2 bt274.1 bt274.2).bind fun bt284 => ((impl_pair_cross.f bt279.1 bt279.2 bt284.1 bt284.2).bind fun t286 => ((impl_signInt.f t286).bind fun t287 => (some (t287, true))))))))) = some (r1, r2) := by rw [if_neg (show ¬ (false = true) by decide)] at H; exact H
        clear H
        have H := H1
        clear H1
        replace H := Option.bind_eq_some_iff.mp H
        obtain ⟨⟨t274, t275⟩, A340, H⟩ := H
        replace H : ((impl_pairOf.f a1_0 a1_1).bind fun bt277 => ((impl_pair_minus.f bt277.1 bt277.2 t274 t275).bind fun bt279 => ((impl_pairOf.f a2_0 a2_1).bind fun bt282 => ((impl_pair_minus.f bt282.1 bt282.2 t274 t275).bind fun bt284 => ((impl_pair_cross.f bt279.1 bt279.2 bt284.1 bt284.2).bind fun t286 => ((impl_signInt.f t286).bind fun t287 => (some (t287, true)))))))) = some (r1, r2) := H
        have A34 := Aside0.mk A340
        clear A340
        replace H := Option.bind_eq_some_iff.mp H
        obtain ⟨⟨t277, t278⟩, A350, H⟩ := H
        replace H : ((impl_pair_minus.f t277 t278 t274 t275).bind fun bt279 => ((impl_pairOf.f a2_0 a2_1).bind fun bt282 => ((impl_pair_minus.f bt282.1 bt282.2 t274 t275).bind fun bt284 => ((impl_pair_cross.f bt279.1 bt279.2 bt284.1 bt284.2).bind fun t286 => ((impl_signInt.f t286).bind fun t287 => (some (t287, true))))))) = some (r1, r2) := H
        have A35 := Aside0.mk A350
        clear A350
        replace H := Option.bind_eq_some_iff.mp H
        obtain ⟨⟨t279, t280⟩, A360, H⟩ := H
        replace H : ((impl_pairOf.f a2_0 a2_1).bind fun bt282 => ((impl_pair_minus.f bt282.1 bt282.2 t274 t275).bind fun bt284 => ((impl_pair_cross.f t279 t280 bt284.1 bt284.2).bind fun t286 => ((impl_signInt.f t286).bind fun t287 => (some (t287, true)))))) = some (r1, r2) := H
        have A36 := Aside0.mk A360
        clear A360
        replace H := Option.bind_eq_some_iff.mp H
        obtain ⟨⟨t282, t283⟩, A370, H⟩ := H
        replace H : ((impl_pair_minus.f t282 t283 t274 t275).bind fun bt284 => ((impl_pair_cross.f t279 t280 bt284.1 bt284.2).bind fun t286 => ((impl_signInt.f t286).bind fun t287 => (some (t287, true))))) = some (r1, r2) := H
        have A37 := Aside0.mk A370
        clear A370
        replace H := Option.bind_eq_some_iff.mp H
        obtain ⟨⟨t284, t285⟩, A380, H⟩ := H
        replace H : ((impl_pair_cross.f t279 t280 t284 t285).bind fun t286 => ((impl_signInt.f t286).bind fun t287 => (some (t287, true)))) = some (r1, r2) := H
        have A38 := Aside0.mk A380
        clear A380
        replace H := Option.bind_eq_some_iff.mp H
        obtain ⟨t286, A390, H⟩ := H
        replace H : ((impl_signInt.f t286).bind fun t287 => (some (t287, true))) = some (r1, r2) := H
        have A39 := Aside0.mk A390
        clear A390
        replace H := Option.bind_eq_some_iff.mp H
        obtain ⟨t287, A400, H⟩ := H
        replace H : (some (t287, true)) = some (r1, r2) := H
        have A40 := Aside0.mk A400
        clear A400
        simp only [Option.some.injEq, Prod.mk.injEq] at H
        obtain ⟨rfl, rfl⟩ := H
        have hnb41 := NB268_269.out
        have hnc41 := NB269_268.out
        have hnb42 := NB268_270.out
        have hnc42 := NB270_268.out
        have hcz43_0 : wc.cell? ⟨gb268, 0, none⟩ = some (.int .i64 a0_0) := (blk_cell BK268.out 0).trans rfl
        have hcz43_1 : wc.cell? ⟨gb268, 1, none⟩ = some (.int .i64 a0_1) := (blk_cell BK268.out 1).trans rfl
        have hfz43_0 := blk_frozen BK268.out 0
        have hfz43_1 := blk_frozen BK268.out 1
        try go_wp2_with (first | ((with_reducible refine gate_callee (f := 53) rfl ?_); refine goesL_ (some 24) rfl rfl Try.func53 (by kernel_rfl) rfl #[.agg #[.int .i64 a0_0, .int .i64 a0_1]] rfl qq2 ?_; (with_reducible refine (impl_pairOf.calls a0_0 a0_1 t274 t275 _ A34.out).mono ?_); rintro e w44 ⟨rfl, hb⟩; refine ⟨_, rfl, ?_⟩; have n0_ := Aside0.mk (bbl_ BK268.out hb); have n1_ := Aside0.mk (bbl_ BK269.out hb); have n2_ := Aside0.mk (bbl_ BK270.out hb); have n3_ := Aside0.mk (below_step (qq7 HB.out GE268.out GE269.out GE270.out) hb); clear BK268; clear BK269; clear BK270; clear HB; have BK268 := n0_; have BK269 := n1_; have BK270 := n2_; have HB := n3_; clear n0_ n1_ n2_ n3_; (try clear hb); (try clear hb2); (try clear hk); (try clear hi)) | ((with_reducible refine gate_dst (N := 8) rfl ?_); refine box_event ?hg (N := 8) ?hd (cs := #[.int .i64 0, .int .i64 0]) (t := 66) ?hr ?_; (case hd => rfl); (case hg => rfl); (case hr => exact qq21); intro gb276 hg w45 hbox hb; have n0_ := Aside0.mk (bbl_ BK268.out hb); have n1_ := Aside0.mk (bbl_ BK269.out hb); have n2_ := Aside0.mk (bbl_ BK270.out hb); have n3_ := Aside0.mk (below_step (qq7 HB.out GE268.out GE269.out GE270.out) hb); have n4_ := Aside0.mk (hbox); have n5_ := Aside0.mk ((by rw [hg]; exact (below_size (qq7 HB.out GE268.out GE269.out GE270.out)) : w.heap.size ≤ gb276)); have n6_ := Aside0.mk ((by rw [hg]; exact (below_size (qq7 HB.out GE268.out GE269.out GE270.out)) : w.heap.size ≤ gb276)); have n7_ := Aside0.mk ((qq26 BK268.out : gb268 ≠ gb276)); have n8_ := Aside0.mk ((qq27 BK268.out : gb276 ≠ gb268)); have n9_ := Aside0.mk ((qq26 BK269.out : gb269 ≠ gb276)); have n10_ := Aside0.mk ((qq27 BK269.out : gb276 ≠ gb269)); have n11_ := Aside0.mk ((qq26 BK270.out : gb270 ≠ gb276)); have n12_ := Aside0.mk ((qq27 BK270.out : gb276 ≠ gb270)); clear BK268; clear BK269; clear BK270; clear HB; have BK268 := n0_; have BK269 := n1_; have BK270 := n2_; have HB := n3_; have BK276 := n4_; have GW276 := n5_; have GE276 := n6_; have NB268_276 := n7_; have NB276_268 := n8_; have NB269_276 := n9_; have NB276_269 := n10_; have NB270_276 := n11_; have NB276_270 := n12_; clear n0_ n1_ n2_ n3_ n4_ n5_ n6_ n7_ n8_ n9_ n10_ n11_ n12_; clear hb hbox hg; have hnb46 := NB276_268.out; have hnc46 := NB268_276.out; have hnb47 := NB276_269.out; have hnc47 := NB269_276.out; have hnb48 := NB276_270.out; have hnc48 := NB270_276.out; have hcz49_0 : w45.cell? ⟨gb276, 0, none⟩ = some (.int .i64 0) := (blk_cell BK276.out 0).trans rfl; have hcz49_1 : w45.cell? ⟨gb276, 1, none⟩ = some (.int .i64 0) := (blk_cell BK276.out 1).trans rfl; have hfz49_0 := blk_frozen BK276.out 0; have hfz49_1 := blk_frozen BK276.out 1))
        have n0_ : Aside0 (((w45.setCell ⟨gb276, 0, none⟩ (.int .i64 t274)).setCell ⟨gb276, 1, none⟩ (.int .i64 t275)).heap[gb268]? = some (.cells #[.int .i64 a0_0, .int .i64 a0_1] 32 (0, 0))) := ⟨qq13 NB268_276.out BK268.out⟩
        have n1_ : Aside0 (((w45.setCell ⟨gb276, 0, none⟩ (.int .i64 t274)).setCell ⟨gb276, 1, none⟩ (.int .i64 t275)).heap[gb269]? = some (.cells #[.int .i64 a1_0, .int .i64 a1_1] 32 (0, 0))) := ⟨qq13 NB269_276.out BK269.out⟩
        have n2_ : Aside0 (((w45.setCell ⟨gb276, 0, none⟩ (.int .i64 t274)).setCell ⟨gb276, 1, none⟩ (.int .i64 t275)).heap[gb270]? = some (.cells #[.int .i64 a2_0, .int .i64 a2_1] 32 (0, 0))) := ⟨qq13 NB270_276.out BK270.out⟩
        have n3_ : Aside0 (((w45.setCell ⟨gb276, 0, none⟩ (.int .i64 t274)).setCell ⟨gb276, 1, none⟩ (.int .i64 t275)).heap[gb276]? = some (.cells #[.int .i64 t274, .int .i64 t275] 66 (0, 0))) := ⟨by (with_reducible repeat (first | refine blk_drewN ?_ _ | refine blk_drew ?_ | refine blk_alloc ?_ _)); refine blk_put (cs := #[.int .i64 t274, .int .i64 0]) ?_ 1 _ rfl; (with_reducible repeat (first | refine blk_drewN ?_ _ | refine blk_drew ?_ | refine blk_alloc ?_ _)); refine blk_put (cs := #[.int .i64 0, .int .i64 0]) ?_ 0 _ rfl; (with_reducible repeat (first | refine blk_drewN ?_ _ | refine blk_drew ?_ | refine blk_alloc ?_ _)); exact BK276.out⟩
        have n4_ : Aside0 (Below w.heap.size w ((w45.setCell ⟨gb276, 0, none⟩ (.int .i64 t274)).setCell ⟨gb276, 1, none⟩ (.int .i64 t275))) := ⟨qq15⟩
        (try clear BK268)
        (try clear BK269)
        (try clear BK270)
        (try clear BK276)
        (try clear HB)
        generalize ((w45.setCell ⟨gb276, 0, none⟩ (.int .i64 t274)).setCell ⟨gb276, 1, none⟩ (.int .i64 t275)) = w50 at n0_ n1_ n2_ n3_ n4_ ⊢
        have BK268 := n0_
        have BK269 := n1_
        have BK270 := n2_
        have BK276 := n3_
        have HB := n4_
        clear n0_ n1_ n2_ n3_ n4_
        have n0_ := Aside0.mk (blk_drew BK268.out)
        have n1_ := Aside0.mk (blk_drew BK269.out)
        have n2_ := Aside0.mk (blk_drew BK270.out)
        have n3_ := Aside0.mk (blk_drew BK276.out)
        have n4_ := Aside0.mk (below_drew1 HB.out)
        clear BK268
        clear BK269
        clear BK270
        clear BK276
        clear HB
        have BK268 := n0_
        have BK269 := n1_
        have BK270 := n2_
        have BK276 := n3_
        have HB := n4_
        clear n0_ n1_ n2_ n3_ n4_
        refine start_ (n := 6) (S := fun w' => w'.cell? ⟨gb269, 0, none⟩ = some (.int .i64 a1_0) ∧ w'.cell? ⟨gb269, 1, none⟩ = some (.int .i64 a1_1) ∧ w'.cell? ⟨gb276, 0, none⟩ = some (.int .i64 t274) ∧ w'.cell? ⟨gb276, 1, none⟩ = some (.int .i64 t275)) (ds := []) #[false, false, false, false, false, false] (by kernel_rfl) rfl rfl ⟨(blk_cell BK269.out 0).trans rfl, (blk_cell BK269.out 1).trans rfl, (blk_cell BK276.out 0).trans rfl, (blk_cell BK276.out 1).trans rfl⟩ (fun hHeld => ?_)
        generalize w50.drew = w51 at BK268 BK269 BK270 BK276 HB hHeld ⊢
        refine take_ (i := 0) (N := some 25) (v := ?_) (a' := ?_) #[true, false, false, false, false, false] rfl rfl (by kernel_rfl) (fun _ _ _ h => h) (Or.inl ⟨by rfl, ?_⟩) hHeld ?_ ?_
        rotate_left
        · rintro w' ⟨s0, s1, s2, s3⟩
          go_simp
          with_reducible rfl
        rotate_left
        · simp only [Act.put, List.setIfInBounds_toArray, List.set_cons_zero, List.set_cons_succ, i64_w, i32_w]
          rfl
        refine take_ (i := 2) (N := some 27) (v := ?_) (a' := ?_) #[true, false, true, false, false, false] rfl rfl (by kernel_rfl) (fun _ _ _ h => h) (Or.inl ⟨by rfl, ?_⟩) hHeld ?_ ?_
        rotate_left
        · rintro w' ⟨s0, s1, s2, s3⟩
          go_simp
          with_reducible rfl
        rotate_left
        · simp only [Act.put, List.setIfInBounds_toArray, List.set_cons_zero, List.set_cons_succ, i64_w, i32_w]
          rfl
        refine join_ (σ := Nat) 1 #[true, true, true, true, true, false] (fun s_ => [(26, .agg #[.int .i64 t277, .int .i64 t278]), (28, .agg #[.int .i64 t279, .int .i64 t280]), (9, .pointer (some ⟨s_, 0, none⟩))]) (fun s_ w' => (w'.cell? ⟨gb269, 0, none⟩ = some (.int .i64 a1_0) ∧ w'.cell? ⟨gb269, 1, none⟩ = some (.int .i64 a1_1) ∧ w'.cell? ⟨gb276, 0, none⟩ = some (.int .i64 t274) ∧ w'.cell? ⟨gb276, 1, none⟩ = some (.int .i64 t275)) ∧ (w'.heap[gb268]? = some (.cells #[.int .i64 a0_0, .int .i64 a0_1] 32 (0, 0))) ∧ (w'.heap[gb269]? = some (.cells #[.int .i64 a1_0, .int .i64 a1_1] 32 (0, 0))) ∧ (w'.heap[gb270]? = some (.cells #[.int .i64 a2_0, .int .i64 a2_1] 32 (0, 0))) ∧ (w'.heap[gb276]? = some (.cells #[.int .i64 t274, .int .i64 t275] 66 (0, 0))) ∧ (w'.heap[s_]? = some (.cells #[.int .i64 0, .int .i64 0] 66 (0, 0))) ∧ (w.heap.size ≤ s_) ∧ (w.heap.size ≤ s_) ∧ (gb268 ≠ s_) ∧ (s_ ≠ gb268) ∧ (gb269 ≠ s_) ∧ (s_ ≠ gb269) ∧ (gb270 ≠ s_) ∧ (s_ ≠ gb270) ∧ (gb276 ≠ s_) ∧ (s_ ≠ gb276) ∧ (Below w.heap.size w w')) ?_ ?_
        rotate_left
        · intro hCont
          refine two_ (i := 1) (j := 4) (Ni := some 26) (Nj := some 9) #[true, true, true, false, false, false] #[true, false, true, false, true, false] rfl rfl rfl rfl (by kernel_rfl) (by decide) (by decide) (fun K hK => ?_) (fun K hK => ?_)
          · skip
            refine goes_ Try.func53 (by kernel_rfl) rfl #[.agg #[.int .i64 a1_0, .int .i64 a1_1]] (by rfl) rfl rfl qq2 ?_
            with_reducible refine (impl_pairOf.calls a1_0 a1_1 t277 t278 _ A35.out).mono ?_
            rintro e w52 ⟨rfl, hb⟩
            refine ⟨_, rfl, ?_⟩
            have n0_ := Aside0.mk (bbl_ BK268.out hb)
            have n1_ := Aside0.mk (bbl_ BK269.out hb)
            have n2_ := Aside0.mk (bbl_ BK270.out hb)
            have n3_ := Aside0.mk (bbl_ BK276.out hb)
            have n4_ := Aside0.mk (below_step qq15 hb)
            clear BK268
            clear BK269
            clear BK270
            clear BK276
            clear HB
            have BK268 := n0_
            have BK269 := n1_
            have BK270 := n2_
            have BK276 := n3_
            have HB := n4_
            clear n0_ n1_ n2_ n3_ n4_
            (try clear hb)
            (try clear hb2)
            (try clear hk)
            (try clear hi)
            refine hK.out _ _ ⟨(blk_cell BK269.out 0).trans rfl, (blk_cell BK269.out 1).trans rfl, (blk_cell BK276.out 0).trans rfl, (blk_cell BK276.out 1).trans rfl⟩ (fun hHeld => ?_)
            clear hK K
            refine norm_ (a' := ?_) ?_ ?_
            rotate_left
            · show Act.put _ (some 26) _ = _
              simp only [Act.put, List.setIfInBounds_toArray, List.set_cons_zero, List.set_cons_succ, i64_w, i32_w]
              rfl
            refine two_ (i := 3) (j := 4) (Ni := some 28) (Nj := some 9) #[true, true, true, true, false, false] #[true, true, true, false, true, false] rfl rfl rfl rfl (by kernel_rfl) (by decide) (by decide) (fun K hK => ?_) (fun K hK => ?_)
            · skip
              refine goes_ Try.func80 (by kernel_rfl) rfl #[.agg #[.int .i64 t277, .int .i64 t278], .agg #[.int .i64 t274, .int .i64 t275]] (by rfl) rfl rfl qq2 ?_
              with_reducible refine (impl_pair_minus.calls t277 t278 t274 t275 t279 t280 _ A36.out).mono ?_
              rintro e w53 ⟨rfl, hb⟩
              refine ⟨_, rfl, ?_⟩
              have n0_ := Aside0.mk (bbl_ BK268.out hb)
              have n1_ := Aside0.mk (bbl_ BK269.out hb)
              have n2_ := Aside0.mk (bbl_ BK270.out hb)
              have n3_ := Aside0.mk (bbl_ BK276.out hb)
              have n4_ := Aside0.mk (below_step qq15 hb)
              clear BK268
              clear BK269
              clear BK270
              clear BK276
              clear HB
              have BK268 := n0_
              have BK269 := n1_
              have BK270 := n2_
              have BK276 := n3_
              have HB := n4_
              clear n0_ n1_ n2_ n3_ n4_
              (try clear hb)
              (try clear hb2)
              (try clear hk)
              (try clear hi)
              refine hK.out _ _ ⟨(blk_cell BK269.out 0).trans rfl, (blk_cell BK269.out 1).trans rfl, (blk_cell BK276.out 0).trans rfl, (blk_cell BK276.out 1).trans rfl⟩ (fun hHeld => ?_)
              clear hK K
              refine norm_ (a' := ?_) ?_ ?_
              rotate_left
              · show Act.put _ (some 28) _ = _
                simp only [Act.put, List.setIfInBounds_toArray, List.set_cons_zero, List.set_cons_succ, i64_w, i32_w]
                rfl
              refine one_ (i := 4) (N := some 9) #[true, true, true, true, true, false] rfl rfl (by kernel_rfl) (by decide) (fun K hK => ?_)
              refine box_step ?hg (N := 9) ?hd (cs := #[.int .i64 0, .int .i64 0]) (t := 66) ?hr ?_; (case hd => rfl); (case hg => rfl); (case hr => exact qq21)
              intro gb281 hg w54 hbox hb
              have n0_ := Aside0.mk (bbl_ BK268.out hb)
              have n1_ := Aside0.mk (bbl_ BK269.out hb)
              have n2_ := Aside0.mk (bbl_ BK270.out hb)
              have n3_ := Aside0.mk (bbl_ BK276.out hb)
              have n4_ := Aside0.mk (below_step qq15 hb)
              have n5_ := Aside0.mk (hbox)
              have n6_ := Aside0.mk ((qq71 : w.heap.size ≤ gb281))
              have n7_ := Aside0.mk ((qq71 : w.heap.size ≤ gb281))
              have n8_ := Aside0.mk ((qq26 BK268.out : gb268 ≠ gb281))
              have n9_ := Aside0.mk ((qq27 BK268.out : gb281 ≠ gb268))
              have n10_ := Aside0.mk ((qq26 BK269.out : gb269 ≠ gb281))
              have n11_ := Aside0.mk ((qq27 BK269.out : gb281 ≠ gb269))
              have n12_ := Aside0.mk ((qq26 BK270.out : gb270 ≠ gb281))
              have n13_ := Aside0.mk ((qq27 BK270.out : gb281 ≠ gb270))
              have n14_ := Aside0.mk ((qq26 BK276.out : gb276 ≠ gb281))
              have n15_ := Aside0.mk ((qq27 BK276.out : gb281 ≠ gb276))
              clear BK268
              clear BK269
              clear BK270
              clear BK276
              clear HB
              have BK268 := n0_
              have BK269 := n1_
              have BK270 := n2_
              have BK276 := n3_
              have HB := n4_
              have BK281 := n5_
              have GW281 := n6_
              have GE281 := n7_
              have NB268_281 := n8_
              have NB281_268 := n9_
              have NB269_281 := n10_
              have NB281_269 := n11_
              have NB270_281 := n12_
              have NB281_270 := n13_
              have NB276_281 := n14_
              have NB281_276 := n15_
              clear n0_ n1_ n2_ n3_ n4_ n5_ n6_ n7_ n8_ n9_ n10_ n11_ n12_ n13_ n14_ n15_
              clear hb hbox hg
              refine hK.out _ _ ⟨(blk_cell BK269.out 0).trans rfl, (blk_cell BK269.out 1).trans rfl, (blk_cell BK276.out 0).trans rfl, (blk_cell BK276.out 1).trans rfl⟩ (fun hHeld => ?_)
              clear hK K
              refine norm_ (a' := ?_) ?_ ?_
              rotate_left
              · show Act.put _ (some 9) _ = _
                simp only [Act.put, List.setIfInBounds_toArray, List.set_cons_zero, List.set_cons_succ, i64_w, i32_w]
                rfl
              exact norm_ qq41 (hCont (gb281) _ ⟨hHeld, (qq9 BK268.out), (qq9 BK269.out), (qq9 BK270.out), (qq9 BK276.out), (qq9 BK281.out), GW281.out, GE281.out, NB268_281.out, NB281_268.out, NB269_281.out, NB281_269.out, NB270_281.out, NB281_270.out, NB276_281.out, NB281_276.out, qq14⟩)
            · skip
              refine box_step ?hg (N := 9) ?hd (cs := #[.int .i64 0, .int .i64 0]) (t := 66) ?hr ?_; (case hd => rfl); (case hg => rfl); (case hr => exact qq21)
              intro gb281 hg w53 hbox hb
              have n0_ := Aside0.mk (bbl_ BK268.out hb)
              have n1_ := Aside0.mk (bbl_ BK269.out hb)
              have n2_ := Aside0.mk (bbl_ BK270.out hb)
              have n3_ := Aside0.mk (bbl_ BK276.out hb)
              have n4_ := Aside0.mk (below_step qq15 hb)
              have n5_ := Aside0.mk (hbox)
              have n6_ := Aside0.mk ((qq71 : w.heap.size ≤ gb281))
              have n7_ := Aside0.mk ((qq71 : w.heap.size ≤ gb281))
              have n8_ := Aside0.mk ((qq26 BK268.out : gb268 ≠ gb281))
              have n9_ := Aside0.mk ((qq27 BK268.out : gb281 ≠ gb268))
              have n10_ := Aside0.mk ((qq26 BK269.out : gb269 ≠ gb281))
              have n11_ := Aside0.mk ((qq27 BK269.out : gb281 ≠ gb269))
              have n12_ := Aside0.mk ((qq26 BK270.out : gb270 ≠ gb281))
              have n13_ := Aside0.mk ((qq27 BK270.out : gb281 ≠ gb270))
              have n14_ := Aside0.mk ((qq26 BK276.out : gb276 ≠ gb281))
              have n15_ := Aside0.mk ((qq27 BK276.out : gb281 ≠ gb276))
              clear BK268
              clear BK269
              clear BK270
              clear BK276
              clear HB
              have BK268 := n0_
              have BK269 := n1_
              have BK270 := n2_
              have BK276 := n3_
              have HB := n4_
              have BK281 := n5_
              have GW281 := n6_
              have GE281 := n7_
              have NB268_281 := n8_
              have NB281_268 := n9_
              have NB269_281 := n10_
              have NB281_269 := n11_
              have NB270_281 := n12_
              have NB281_270 := n13_
              have NB276_281 := n14_
              have NB281_276 := n15_
              clear n0_ n1_ n2_ n3_ n4_ n5_ n6_ n7_ n8_ n9_ n10_ n11_ n12_ n13_ n14_ n15_
              clear hb hbox hg
              refine hK.out _ _ ⟨(blk_cell BK269.out 0).trans rfl, (blk_cell BK269.out 1).trans rfl, (blk_cell BK276.out 0).trans rfl, (blk_cell BK276.out 1).trans rfl⟩ (fun hHeld => ?_)
              clear hK K
              refine norm_ (a' := ?_) ?_ ?_
              rotate_left
              · show Act.put _ (some 9) _ = _
                simp only [Act.put, List.setIfInBounds_toArray, List.set_cons_zero, List.set_cons_succ, i64_w, i32_w]
                rfl
              refine one_ (i := 3) (N := some 28) #[true, true, true, true, true, false] rfl rfl (by kernel_rfl) (by decide) (fun K hK => ?_)
              refine goes_ Try.func80 (by kernel_rfl) rfl #[.agg #[.int .i64 t277, .int .i64 t278], .agg #[.int .i64 t274, .int .i64 t275]] (by rfl) rfl rfl qq2 ?_
              with_reducible refine (impl_pair_minus.calls t277 t278 t274 t275 t279 t280 _ A36.out).mono ?_
              rintro e w54 ⟨rfl, hb⟩
              refine ⟨_, rfl, ?_⟩
              have n0_ := Aside0.mk (bbl_ BK268.out hb)
              have n1_ := Aside0.mk (bbl_ BK269.out hb)
              have n2_ := Aside0.mk (bbl_ BK270.out hb)
              have n3_ := Aside0.mk (bbl_ BK276.out hb)
              have n4_ := Aside0.mk (bbl_ BK281.out hb)
              have n5_ := Aside0.mk (below_step qq14 hb)
              clear BK268
              clear BK269
              clear BK270
              clear BK276
              clear BK281
              clear HB
              have BK268 := n0_
              have BK269 := n1_
              have BK270 := n2_
              have BK276 := n3_
              have BK281 := n4_
              have HB := n5_
              clear n0_ n1_ n2_ n3_ n4_ n5_
              (try clear hb)
              (try clear hb2)
              (try clear hk)
              (try clear hi)
              refine hK.out _ _ ⟨(blk_cell BK269.out 0).trans rfl, (blk_cell BK269.out 1).trans rfl, (blk_cell BK276.out 0).trans rfl, (blk_cell BK276.out 1).trans rfl⟩ (fun hHeld => ?_)
              clear hK K
              refine norm_ (a' := ?_) ?_ ?_
              rotate_left
              · show Act.put _ (some 28) _ = _
                simp only [Act.put, List.setIfInBounds_toArray, List.set_cons_zero, List.set_cons_succ, i64_w, i32_w]
                rfl
              exact norm_ qq41 (hCont (gb281) _ ⟨hHeld, (qq9 BK268.out), (qq9 BK269.out), (qq9 BK270.out), (qq9 BK276.out), (qq9 BK281.out), GW281.out, GE281.out, NB268_281.out, NB281_268.out, NB269_281.out, NB281_269.out, NB270_281.out, NB281_270.out, NB276_281.out, NB281_276.out, qq14⟩)
          · skip
            refine box_step ?hg (N := 9) ?hd (cs := #[.int .i64 0, .int .i64 0]) (t := 66) ?hr ?_; (case hd => rfl); (case hg => rfl); (case hr => exact qq21)
            intro gb281 hg w52 hbox hb
            have n0_ := Aside0.mk (bbl_ BK268.out hb)
            have n1_ := Aside0.mk (bbl_ BK269.out hb)
            have n2_ := Aside0.mk (bbl_ BK270.out hb)
            have n3_ := Aside0.mk (bbl_ BK276.out hb)
            have n4_ := Aside0.mk (below_step qq15 hb)
            have n5_ := Aside0.mk (hbox)
            have n6_ := Aside0.mk ((qq71 : w.heap.size ≤ gb281))
            have n7_ := Aside0.mk ((qq71 : w.heap.size ≤ gb281))
            have n8_ := Aside0.mk ((qq26 BK268.out : gb268 ≠ gb281))
            have n9_ := Aside0.mk ((qq27 BK268.out : gb281 ≠ gb268))
            have n10_ := Aside0.mk ((qq26 BK269.out : gb269 ≠ gb281))
            have n11_ := Aside0.mk ((qq27 BK269.out : gb281 ≠ gb269))
            have n12_ := Aside0.mk ((qq26 BK270.out : gb270 ≠ gb281))
            have n13_ := Aside0.mk ((qq27 BK270.out : gb281 ≠ gb270))
            have n14_ := Aside0.mk ((qq26 BK276.out : gb276 ≠ gb281))
            have n15_ := Aside0.mk ((qq27 BK276.out : gb281 ≠ gb276))
            clear BK268
            clear BK269
            clear BK270
            clear BK276
            clear HB
            have BK268 := n0_
            have BK269 := n1_
            have BK270 := n2_
            have BK276 := n3_
            have HB := n4_
            have BK281 := n5_
            have GW281 := n6_
            have GE281 := n7_
            have NB268_281 := n8_
            have NB281_268 := n9_
            have NB269_281 := n10_
            have NB281_269 := n11_
            have NB270_281 := n12_
            have NB281_270 := n13_
            have NB276_281 := n14_
            have NB281_276 := n15_
            clear n0_ n1_ n2_ n3_ n4_ n5_ n6_ n7_ n8_ n9_ n10_ n11_ n12_ n13_ n14_ n15_
            clear hb hbox hg
            refine hK.out _ _ ⟨(blk_cell BK269.out 0).trans rfl, (blk_cell BK269.out 1).trans rfl, (blk_cell BK276.out 0).trans rfl, (blk_cell BK276.out 1).trans rfl⟩ (fun hHeld => ?_)
            clear hK K
            refine norm_ (a' := ?_) ?_ ?_
            rotate_left
            · show Act.put _ (some 9) _ = _
              simp only [Act.put, List.setIfInBounds_toArray, List.set_cons_zero, List.set_cons_succ, i64_w, i32_w]
              rfl
            refine one_ (i := 1) (N := some 26) #[true, true, true, false, true, false] rfl rfl (by kernel_rfl) (by decide) (fun K hK => ?_)
            refine goes_ Try.func53 (by kernel_rfl) rfl #[.agg #[.int .i64 a1_0, .int .i64 a1_1]] (by rfl) rfl rfl qq2 ?_
            with_reducible refine (impl_pairOf.calls a1_0 a1_1 t277 t278 _ A35.out).mono ?_
            rintro e w53 ⟨rfl, hb⟩
            refine ⟨_, rfl, ?_⟩
            have n0_ := Aside0.mk (bbl_ BK268.out hb)
            have n1_ := Aside0.mk (bbl_ BK269.out hb)
            have n2_ := Aside0.mk (bbl_ BK270.out hb)
            have n3_ := Aside0.mk (bbl_ BK276.out hb)
            have n4_ := Aside0.mk (bbl_ BK281.out hb)
            have n5_ := Aside0.mk (below_step qq14 hb)
            clear BK268
            clear BK269
            clear BK270
            clear BK276
            clear BK281
            clear HB
            have BK268 := n0_
            have BK269 := n1_
            have BK270 := n2_
            have BK276 := n3_
            have BK281 := n4_
            have HB := n5_
            clear n0_ n1_ n2_ n3_ n4_ n5_
            (try clear hb)
            (try clear hb2)
            (try clear hk)
            (try clear hi)
            refine hK.out _ _ ⟨(blk_cell BK269.out 0).trans rfl, (blk_cell BK269.out 1).trans rfl, (blk_cell BK276.out 0).trans rfl, (blk_cell BK276.out 1).trans rfl⟩ (fun hHeld => ?_)
            clear hK K
            refine norm_ (a' := ?_) ?_ ?_
            rotate_left
            · show Act.put _ (some 26) _ = _
              simp only [Act.put, List.setIfInBounds_toArray, List.set_cons_zero, List.set_cons_succ, i64_w, i32_w]
              rfl
            refine one_ (i := 3) (N := some 28) #[true, true, true, true, true, false] rfl rfl (by kernel_rfl) (by decide) (fun K hK => ?_)
            refine goes_ Try.func80 (by kernel_rfl) rfl #[.agg #[.int .i64 t277, .int .i64 t278], .agg #[.int .i64 t274, .int .i64 t275]] (by rfl) rfl rfl qq2 ?_
            with_reducible refine (impl_pair_minus.calls t277 t278 t274 t275 t279 t280 _ A36.out).mono ?_
            rintro e w54 ⟨rfl, hb⟩
            refine ⟨_, rfl, ?_⟩
            have n0_ := Aside0.mk (bbl_ BK268.out hb)
            have n1_ := Aside0.mk (bbl_ BK269.out hb)
            have n2_ := Aside0.mk (bbl_ BK270.out hb)
            have n3_ := Aside0.mk (bbl_ BK276.out hb)
            have n4_ := Aside0.mk (bbl_ BK281.out hb)
            have n5_ := Aside0.mk (below_step qq14 hb)
            clear BK268
            clear BK269
            clear BK270
            clear BK276
            clear BK281
            clear HB
            have BK268 := n0_
            have BK269 := n1_
            have BK270 := n2_
            have BK276 := n3_
            have BK281 := n4_
            have HB := n5_
            clear n0_ n1_ n2_ n3_ n4_ n5_
            (try clear hb)
            (try clear hb2)
            (try clear hk)
            (try clear hi)
            refine hK.out _ _ ⟨(blk_cell BK269.out 0).trans rfl, (blk_cell BK269.out 1).trans rfl, (blk_cell BK276.out 0).trans rfl, (blk_cell BK276.out 1).trans rfl⟩ (fun hHeld => ?_)
            clear hK K
            refine norm_ (a' := ?_) ?_ ?_
            rotate_left
            · show Act.put _ (some 28) _ = _
              simp only [Act.put, List.setIfInBounds_toArray, List.set_cons_zero, List.set_cons_succ, i64_w, i32_w]
              rfl
            exact norm_ qq41 (hCont (gb281) _ ⟨hHeld, (qq9 BK268.out), (qq9 BK269.out), (qq9 BK270.out), (qq9 BK276.out), (qq9 BK281.out), GW281.out, GE281.out, NB268_281.out, NB281_268.out, NB269_281.out, NB281_269.out, NB270_281.out, NB281_270.out, NB276_281.out, NB281_276.out, qq14⟩)
        rintro gb281 w55 ⟨hS_, h0_, h1_, h2_, h3_, h4_, h5_, h6_, h7_, h8_, h9_, h10_, h11_, h12_, h13_, h14_, h15_⟩
        have n0_ : Aside0 (w55.heap[gb268]? = some (.cells #[.int .i64 a0_0, .int .i64 a0_1] 32 (0, 0))) := ⟨h0_⟩
        have n1_ : Aside0 (w55.heap[gb269]? = some (.cells #[.int .i64 a1_0, .int .i64 a1_1] 32 (0, 0))) := ⟨h1_⟩
        have n2_ : Aside0 (w55.heap[gb270]? = some (.cells #[.int .i64 a2_0, .int .i64 a2_1] 32 (0, 0))) := ⟨h2_⟩
        have n3_ : Aside0 (w55.heap[gb276]? = some (.cells #[.int .i64 t274, .int .i64 t275] 66 (0, 0))) := ⟨h3_⟩
        have n4_ : Aside0 (w55.heap[gb281]? = some (.cells #[.int .i64 0, .int .i64 0] 66 (0, 0))) := ⟨h4_⟩
        have n5_ : Aside0 (w.heap.size ≤ gb281) := ⟨h5_⟩
        have n6_ : Aside0 (w.heap.size ≤ gb281) := ⟨h6_⟩
        have n7_ : Aside0 (gb268 ≠ gb281) := ⟨h7_⟩
        have n8_ : Aside0 (gb281 ≠ gb268) := ⟨h8_⟩
        have n9_ : Aside0 (gb269 ≠ gb281) := ⟨h9_⟩
        have n10_ : Aside0 (gb281 ≠ gb269) := ⟨h10_⟩
        have n11_ : Aside0 (gb270 ≠ gb281) := ⟨h11_⟩
        have n12_ : Aside0 (gb281 ≠ gb270) := ⟨h12_⟩
        have n13_ : Aside0 (gb276 ≠ gb281) := ⟨h13_⟩
        have n14_ : Aside0 (gb281 ≠ gb276) := ⟨h14_⟩
        have n15_ : Aside0 (Below w.heap.size w w55) := ⟨h15_⟩
        clear BK268
        clear BK269
        clear BK270
        clear BK276
        clear HB
        clear h0_ h1_ h2_ h3_ h4_ h5_ h6_ h7_ h8_ h9_ h10_ h11_ h12_ h13_ h14_ h15_
        have BK268 := n0_
        have BK269 := n1_
        have BK270 := n2_
        have BK276 := n3_
        have BK281 := n4_
        have GW281 := n5_
        have GE281 := n6_
        have NB268_281 := n7_
        have NB281_268 := n8_
        have NB269_281 := n9_
        have NB281_269 := n10_
        have NB270_281 := n11_
        have NB281_270 := n12_
        have NB276_281 := n13_
        have NB281_276 := n14_
        have HB := n15_
        clear n0_ n1_ n2_ n3_ n4_ n5_ n6_ n7_ n8_ n9_ n10_ n11_ n12_ n13_ n14_ n15_
        have hHeld : w55.cell? ⟨gb269, 0, none⟩ = some (.int .i64 a1_0) ∧ w55.cell? ⟨gb269, 1, none⟩ = some (.int .i64 a1_1) ∧ w55.cell? ⟨gb276, 0, none⟩ = some (.int .i64 t274) ∧ w55.cell? ⟨gb276, 1, none⟩ = some (.int .i64 t275) := hS_
        refine norm_ (a' := ?_) ?_ ?_
        rotate_left
        · simp only [putAll, Act.put, List.setIfInBounds_toArray, List.set_cons_zero, List.set_cons_succ]
          rfl
        refine one_ (i := 5) (N := none) #[true, true, true, true, true, true] rfl rfl (by kernel_rfl) (by decide) (fun K hK => ?_)
        have hs56 : w55.cell? ⟨gb281, 0, none⟩ = some (.int .i64 0) := (blk_cell BK281.out 0).trans rfl
        have hfs56 := blk_frozen BK281.out 0
        have hns56_0 := NB268_281.out
        have hns56_1 := NB269_281.out
        have hns56_2 := NB270_281.out
        have hns56_3 := NB276_281.out
        have hms56_0 := NB281_268.out
        have hms56_1 := NB281_269.out
        have hms56_2 := NB281_270.out
        have hms56_3 := NB281_276.out
        have hs57 : w55.cell? ⟨gb281, 1, none⟩ = some (.int .i64 0) := (blk_cell BK281.out 1).trans rfl
        have hfs57 := blk_frozen BK281.out 1
        have hns57_0 := NB268_281.out
        have hns57_1 := NB269_281.out
        have hns57_2 := NB270_281.out
        have hns57_3 := NB276_281.out
        have hms57_0 := NB281_268.out
        have hms57_1 := NB281_269.out
        have hms57_2 := NB281_270.out
        have hms57_3 := NB281_276.out
        refine skip_ (w1 := ?_) (by rfl) rfl ?_ ?_
        rotate_left
        · go_simp
          rfl
        refine hK.out _ _ ⟨((cell_far (p := ⟨gb281, _, none⟩) NB269_281.out _).trans (((cell_far (p := ⟨gb281, _, none⟩) NB269_281.out _).trans (hHeld.1)))), ((cell_far (p := ⟨gb281, _, none⟩) NB269_281.out _).trans (((cell_far (p := ⟨gb281, _, none⟩) NB269_281.out _).trans (hHeld.2.1)))), ((cell_far (p := ⟨gb281, _, none⟩) NB276_281.out _).trans (((cell_far (p := ⟨gb281, _, none⟩) NB276_281.out _).trans (hHeld.2.2.1)))), ((cell_far (p := ⟨gb281, _, none⟩) NB276_281.out _).trans (((cell_far (p := ⟨gb281, _, none⟩) NB276_281.out _).trans (hHeld.2.2.2))))⟩ (fun hHeld => ?_)
        clear hK K
        refine done_ (by kernel_rfl) ?_
        try go_wp2
        have n0_ : Aside0 (((w55.setCell ⟨gb281, 0, none⟩ (.int .i64 t279)).setCell ⟨gb281, 1, none⟩ (.int .i64 t280)).heap[gb268]? = some (.cells #[.int .i64 a0_0, .int .i64 a0_1] 32 (0, 0))) := ⟨qq13 NB268_281.out BK268.out⟩
        have n1_ : Aside0 (((w55.setCell ⟨gb281, 0, none⟩ (.int .i64 t279)).setCell ⟨gb281, 1, none⟩ (.int .i64 t280)).heap[gb269]? = some (.cells #[.int .i64 a1_0, .int .i64 a1_1] 32 (0, 0))) := ⟨qq13 NB269_281.out BK269.out⟩
        have n2_ : Aside0 (((w55.setCell ⟨gb281, 0, none⟩ (.int .i64 t279)).setCell ⟨gb281, 1, none⟩ (.int .i64 t280)).heap[gb270]? = some (.cells #[.int .i64 a2_0, .int .i64 a2_1] 32 (0, 0))) := ⟨qq13 NB270_281.out BK270.out⟩
        have n3_ : Aside0 (((w55.setCell ⟨gb281, 0, none⟩ (.int .i64 t279)).setCell ⟨gb281, 1, none⟩ (.int .i64 t280)).heap[gb276]? = some (.cells #[.int .i64 t274, .int .i64 t275] 66 (0, 0))) := ⟨qq13 NB276_281.out BK276.out⟩
        have n4_ : Aside0 (((w55.setCell ⟨gb281, 0, none⟩ (.int .i64 t279)).setCell ⟨gb281, 1, none⟩ (.int .i64 t280)).heap[gb281]? = some (.cells #[.int .i64 t279, .int .i64 t280] 66 (0, 0))) := ⟨by (with_reducible repeat (first | refine blk_drewN ?_ _ | refine blk_drew ?_ | refine blk_alloc ?_ _)); refine blk_put (cs := #[.int .i64 t279, .int .i64 0]) ?_ 1 _ rfl; (with_reducible repeat (first | refine blk_drewN ?_ _ | refine blk_drew ?_ | refine blk_alloc ?_ _)); refine blk_put (cs := #[.int .i64 0, .int .i64 0]) ?_ 0 _ rfl; (with_reducible repeat (first | refine blk_drewN ?_ _ | refine blk_drew ?_ | refine blk_alloc ?_ _)); exact BK281.out⟩
        have n5_ : Aside0 (Below w.heap.size w ((w55.setCell ⟨gb281, 0, none⟩ (.int .i64 t279)).setCell ⟨gb281, 1, none⟩ (.int .i64 t280))) := ⟨qq14⟩
        (try clear BK268)
        (try clear BK269)
        (try clear BK270)
        (try clear BK276)
        (try clear BK281)
        (try clear HB)
        generalize ((w55.setCell ⟨gb281, 0, none⟩ (.int .i64 t279)).setCell ⟨gb281, 1, none⟩ (.int .i64 t280)) = w58 at n0_ n1_ n2_ n3_ n4_ n5_ ⊢
        have BK268 := n0_
        have BK269 := n1_
        have BK270 := n2_
        have BK276 := n3_
        have BK281 := n4_
        have HB := n5_
        clear n0_ n1_ n2_ n3_ n4_ n5_
        have n0_ := Aside0.mk (blk_drew BK268.out)
        have n1_ := Aside0.mk (blk_drew BK269.out)
        have n2_ := Aside0.mk (blk_drew BK270.out)
        have n3_ := Aside0.mk (blk_drew BK276.out)
        have n4_ := Aside0.mk (blk_drew BK281.out)
        have n5_ := Aside0.mk (below_drew1 HB.out)
        clear BK268
        clear BK269
        clear BK270
        clear BK276
        clear BK281
        clear HB
        have BK268 := n0_
        have BK269 := n1_
        have BK270 := n2_
        have BK276 := n3_
        have BK281 := n4_
        have HB := n5_
        clear n0_ n1_ n2_ n3_ n4_ n5_
        refine start_ (n := 9) (S := fun w' => w'.cell? ⟨gb281, 0, none⟩ = some (.int .i64 t279) ∧ w'.cell? ⟨gb281, 1, none⟩ = some (.int .i64 t280) ∧ w'.cell? ⟨gb270, 0, none⟩ = some (.int .i64 a2_0) ∧ w'.cell? ⟨gb270, 1, none⟩ = some (.int .i64 a2_1) ∧ w'.cell? ⟨gb276, 0, none⟩ = some (.int .i64 t274) ∧ w'.cell? ⟨gb276, 1, none⟩ = some (.int .i64 t275)) (ds := []) #[false, false, false, false, false, false, false, false, false] (by kernel_rfl) rfl rfl ⟨(blk_cell BK281.out 0).trans rfl, (blk_cell BK281.out 1).trans rfl, (blk_cell BK270.out 0).trans rfl, (blk_cell BK270.out 1).trans rfl, (blk_cell BK276.out 0).trans rfl, (blk_cell BK276.out 1).trans rfl⟩ (fun hHeld => ?_); refine with_tabW impl_PointSide.tab5 impl_PointSide.bits5 (fun HT_ HW_ => ?_)
        generalize w58.drew = w59 at BK268 BK269 BK270 BK276 BK281 HB hHeld ⊢
        refine take_ (i := 0) (N := some 29) (v := ?_) (a' := ?_) #[true, false, false, false, false, false, false, false, false] rfl rfl (take_ofW HT_.out HW_.out (by kernel_rfl)) (fun _ _ _ h => h) (Or.inl ⟨by rfl, ?_⟩) hHeld ?_ ?_
        rotate_left
        · rintro w' ⟨s0, s1, s2, s3, s4, s5⟩
          go_simp
          with_reducible rfl
        rotate_left
        · simp only [Act.put, List.setIfInBounds_toArray, List.set_cons_zero, List.set_cons_succ, i64_w, i32_w]
          rfl
        refine take_ (i := 1) (N := some 30) (v := ?_) (a' := ?_) #[true, true, false, false, false, false, false, false, false] rfl rfl (take_ofW HT_.out HW_.out (by kernel_rfl)) (fun _ _ _ h => h) (Or.inl ⟨by rfl, ?_⟩) hHeld ?_ ?_
        rotate_left
        · rintro w' ⟨s0, s1, s2, s3, s4, s5⟩
          go_simp
          with_reducible rfl
        rotate_left
        · simp only [Act.put, List.setIfInBounds_toArray, List.set_cons_zero, List.set_cons_succ, i64_w, i32_w]
          rfl
        refine take_ (i := 3) (N := some 32) (v := ?_) (a' := ?_) #[true, true, false, true, false, false, false, false, false] rfl rfl (take_ofW HT_.out HW_.out (by kernel_rfl)) (fun _ _ _ h => h) (Or.inl ⟨by rfl, ?_⟩) hHeld ?_ ?_
        rotate_left
        · rintro w' ⟨s0, s1, s2, s3, s4, s5⟩
          go_simp
          with_reducible rfl
        rotate_left
        · simp only [Act.put, List.setIfInBounds_toArray, List.set_cons_zero, List.set_cons_succ, i64_w, i32_w]
          rfl
        refine one_ (i := 2) (N := some 31) #[true, true, true, true, false, false, false, false, false] rfl rfl (one_of HT_.out (by kernel_rfl)) (by decide) (fun K hK => ?_)
        refine goes_ Try.func53 (by kernel_rfl) rfl #[.agg #[.int .i64 a2_0, .int .i64 a2_1]] (by rfl) rfl rfl qq2 ?_
        with_reducible refine (impl_pairOf.calls a2_0 a2_1 t282 t283 _ A37.out).mono ?_
        rintro e w60 ⟨rfl, hb⟩
        refine ⟨_, rfl, ?_⟩
        have n0_ := Aside0.mk (bbl_ BK268.out hb)
        have n1_ := Aside0.mk (bbl_ BK269.out hb)
        have n2_ := Aside0.mk (bbl_ BK270.out hb)
        have n3_ := Aside0.mk (bbl_ BK276.out hb)
        have n4_ := Aside0.mk (bbl_ BK281.out hb)
        have n5_ := Aside0.mk (below_step qq14 hb)
        clear BK268
        clear BK269
        clear BK270
        clear BK276
        clear BK281
        clear HB
        have BK268 := n0_
        have BK269 := n1_
        have BK270 := n2_
        have BK276 := n3_
        have BK281 := n4_
        have HB := n5_
        clear n0_ n1_ n2_ n3_ n4_ n5_
        (try clear hb)
        (try clear hb2)
        (try clear hk)
        (try clear hi)
        refine hK.out _ _ ⟨(blk_cell BK281.out 0).trans rfl, (blk_cell BK281.out 1).trans rfl, (blk_cell BK270.out 0).trans rfl, (blk_cell BK270.out 1).trans rfl, (blk_cell BK276.out 0).trans rfl, (blk_cell BK276.out 1).trans rfl⟩ (fun hHeld => ?_)
        clear hK K
        refine norm_ (a' := ?_) ?_ ?_
        rotate_left
        · show Act.put _ (some 31) _ = _
          simp only [Act.put, List.setIfInBounds_toArray, List.set_cons_zero, List.set_cons_succ, i64_w, i32_w]
          rfl
        refine one_ (i := 4) (N := some 33) #[true, true, true, true, true, false, false, false, false] rfl rfl (one_of HT_.out (by kernel_rfl)) (by decide) (fun K hK => ?_)
        refine goes_ Try.func80 (by kernel_rfl) rfl #[.agg #[.int .i64 t282, .int .i64 t283], .agg #[.int .i64 t274, .int .i64 t275]] (by rfl) rfl rfl qq2 ?_
        with_reducible refine (impl_pair_minus.calls t282 t283 t274 t275 t284 t285 _ A38.out).mono ?_
        rintro e w61 ⟨rfl, hb⟩
        refine ⟨_, rfl, ?_⟩
        have n0_ := Aside0.mk (bbl_ BK268.out hb)
        have n1_ := Aside0.mk (bbl_ BK269.out hb)
        have n2_ := Aside0.mk (bbl_ BK270.out hb)
        have n3_ := Aside0.mk (bbl_ BK276.out hb)
        have n4_ := Aside0.mk (bbl_ BK281.out hb)
        have n5_ := Aside0.mk (below_step qq14 hb)
        clear BK268
        clear BK269
        clear BK270
        clear BK276
        clear BK281
        clear HB
        have BK268 := n0_
        have BK269 := n1_
        have BK270 := n2_
        have BK276 := n3_
        have BK281 := n4_
        have HB := n5_
        clear n0_ n1_ n2_ n3_ n4_ n5_
        (try clear hb)
        (try clear hb2)
        (try clear hk)
        (try clear hi)
        refine hK.out _ _ ⟨(blk_cell BK281.out 0).trans rfl, (blk_cell BK281.out 1).trans rfl, (blk_cell BK270.out 0).trans rfl, (blk_cell BK270.out 1).trans rfl, (blk_cell BK276.out 0).trans rfl, (blk_cell BK276.out 1).trans rfl⟩ (fun hHeld => ?_)
        clear hK K
        refine norm_ (a' := ?_) ?_ ?_
        rotate_left
        · show Act.put _ (some 33) _ = _
          simp only [Act.put, List.setIfInBounds_toArray, List.set_cons_zero, List.set_cons_succ, i64_w, i32_w]
          rfl
        refine one_ (i := 5) (N := some 34) #[true, true, true, true, true, true, false, false, false] rfl rfl (one_of HT_.out (by kernel_rfl)) (by decide) (fun K hK => ?_)
        refine goes_ Try.func74 (by kernel_rfl) rfl #[.agg #[.int .i64 t279, .int .i64 t280], .agg #[.int .i64 t284, .int .i64 t285]] (by rfl) rfl rfl qq2 ?_
        with_reducible refine (impl_pair_cross.calls t279 t280 t284 t285 t286 _ A39.out).mono ?_
        rintro e w62 ⟨rfl, hb⟩
        refine ⟨_, rfl, ?_⟩
        have n0_ := Aside0.mk (bbl_ BK268.out hb)
        have n1_ := Aside0.mk (bbl_ BK269.out hb)
        have n2_ := Aside0.mk (bbl_ BK270.out hb)
        have n3_ := Aside0.mk (bbl_ BK276.out hb)
        have n4_ := Aside0.mk (bbl_ BK281.out hb)
        have n5_ := Aside0.mk (below_step qq14 hb)
        clear BK268
        clear BK269
        clear BK270
        clear BK276
        clear BK281
        clear HB
        have BK268 := n0_
        have BK269 := n1_
        have BK270 := n2_
        have BK276 := n3_
        have BK281 := n4_
        have HB := n5_
        clear n0_ n1_ n2_ n3_ n4_ n5_
        (try clear hb)
        (try clear hb2)
        (try clear hk)
        (try clear hi)
        refine hK.out _ _ ⟨(blk_cell BK281.out 0).trans rfl, (blk_cell BK281.out 1).trans rfl, (blk_cell BK270.out 0).trans rfl, (blk_cell BK270.out 1).trans rfl, (blk_cell BK276.out 0).trans rfl, (blk_cell BK276.out 1).trans rfl⟩ (fun hHeld => ?_)
        clear hK K
        refine norm_ (a' := ?_) ?_ ?_
        rotate_left
        · show Act.put _ (some 34) _ = _
          simp only [Act.put, List.setIfInBounds_toArray, List.set_cons_zero, List.set_cons_succ, i64_w, i32_w]
          rfl
        refine one_ (i := 6) (N := some 35) #[true, true, true, true, true, true, true, false, false] rfl rfl (one_of HT_.out (by kernel_rfl)) (by decide) (fun K hK => ?_)
        refine goes_ Try.func60 (by kernel_rfl) rfl #[.int .i64 t286] (by rfl) rfl rfl qq2 ?_
        with_reducible refine (impl_signInt.calls t286 t287 _ A40.out).mono ?_
        rintro e w' ⟨rfl, ⟨nd, rfl⟩⟩
        refine ⟨_, rfl, ?_⟩
        refine hK.out _ _ ⟨(blk_cell BK281.out 0).trans rfl, (blk_cell BK281.out 1).trans rfl, (blk_cell BK270.out 0).trans rfl, (blk_cell BK270.out 1).trans rfl, (blk_cell BK276.out 0).trans rfl, (blk_cell BK276.out 1).trans rfl⟩ (fun hHeld => ?_)
        clear hK K
        refine norm_ (a' := ?_) ?_ ?_
        rotate_left
        · show Act.put _ (some 35) _ = _
          simp only [Act.put, List.setIfInBounds_toArray, List.set_cons_zero, List.set_cons_succ, i64_w, i32_w]
          rfl
        refine pure_ (i := 7) (N := some 6) #[true, true, true, true, true, true, true, true, false] rfl rfl (any_of HT_.out (by kernel_rfl)) (fun _ _ _ h => h) (Or.inl ⟨by rfl, pA_⟩) pB_ ?_
        refine pure_ (i := 8) (N := some 7) #[true, true, true, true, true, true, true, true, true] rfl rfl (any_of HT_.out (by kernel_rfl)) (fun _ _ _ h => h) (Or.inl ⟨by rfl, pA_⟩) pB_ ?_
        refine done_ (done_of HT_.out (by kernel_rfl)) ?_
        try go_wp2
        go_ret2
        exact ⟨qq11, qq14⟩

end Go.Proofs.Ytgdhgncdpmalcaa.Q
namespace Go.Proofs.Ytgdhgncdpmalcaa.Pure
open Go.RowKit Go.Proofs.Ytgdhgncdpmalcaa.Q Go.Proofs.YtgdhgncdpmalcaaW.PrintWords Go.Proofs.YtgdhgncdpmalcaaW.PrintLast Go.Proofs.YtgdhgncdpmalcaaW.PrintMore

/-- The cross product of the steps from the first point to the others. -/
def crs (a b c d e f : Int) : Int := (c - a) * (f - b) - (d - b) * (e - a)
def sgn (x : Int) : Int := if x < 0 then -1 else if x > 0 then 1 else 0
/-- What PointSide answers. -/
def sideR (a b c d e f : Int) : Int × Bool := if PV a b = true ∧ PV c d = true ∧ PV e f = true then (sgn (crs a b c d e f), true) else (0, false)
theorem sideR_yes {a b c d e f : Int} (h : PV a b = true) (h' : PV c d = true) (h'' : PV e f = true) : sideR a b c d e f = (sgn (crs a b c d e f), true) := if_pos ⟨h, h', h''⟩
theorem sideR_no {a b c d e f : Int} (h : ¬ (PV a b = true ∧ PV c d = true ∧ PV e f = true)) : sideR a b c d e f = (0, false) := if_neg h

theorem l1Sign_eq (x : Int) : spec_l1Sign.f x = some (sgn x) := by
  unfold spec_l1Sign.f sgn mx mn
  congr 1
  repeat' split
  all_goals omega
theorem signInt_eq (x : Int) : impl_signInt.f x = some (sgn x) := by
  unfold impl_signInt.f sgn
  repeat' split
  all_goals rfl

theorem spec_l2Step_eq {a b c d : Int} (h : PV a b = true) (h' : PV c d = true) : spec_l2Step.f a b c d = some (c - a, d - b) := by
  have := PV_iff.1 h; have := PV_iff.1 h'
  unfold spec_l2Step.f
  rw [w64 (by omega) (by omega), w64 (by omega) (by omega)]

theorem spec_cross_eq {a b c d e f : Int} (h : PV a b = true) (h' : PV c d = true) (h'' : PV e f = true) : spec_l2Cross.f (c - a) (d - b) (e - a) (f - b) = some (crs a b c d e f) := by
  have := PV_iff.1 h; have := PV_iff.1 h'; have := PV_iff.1 h''
  have h1 := mul_bd (x := c - a) (y := f - b) (m := 20000) (n := 20000) (by omega) (by omega) (by omega) (by omega)
  have h2 := mul_bd (x := d - b) (y := e - a) (m := 20000) (n := 20000) (by omega) (by omega) (by omega) (by omega)
  unfold spec_l2Cross.f crs
  rw [w64 (x := (c - a) * (f - b)) (by omega) (by omega), w64 (x := (d - b) * (e - a)) (by omega) (by omega), w64 (by omega) (by omega)]

theorem impl_cross_eq {a b c d e f : Int} (h : PV a b = true) (h' : PV c d = true) (h'' : PV e f = true) : impl_pair_cross.f (c - a) (d - b) (e - a) (f - b) = some (crs a b c d e f) := by
  have := PV_iff.1 h; have := PV_iff.1 h'; have := PV_iff.1 h''
  have h1 := mul_bd (x := c - a) (y := f - b) (m := 20000) (n := 20000) (by omega) (by omega) (by omega) (by omega)
  have h2 := mul_bd (x := d - b) (y := e - a) (m := 20000) (n := 20000) (by omega) (by omega) (by omega) (by omega)
  unfold impl_pair_cross.f crs
  rw [Int.mul_comm (e - a) (d - b), w64 (x := (c - a) * (f - b)) (by omega) (by omega), w64 (x := (d - b) * (e - a)) (by omega) (by omega), w64 (by omega) (by omega)]

theorem impl_PointSide_eq (k : Nat) (a b c d e f : Int) : impl_PointSide.f (k + 1) a b c d e f = some (sideR a b c d e f) := by
  simp only [impl_PointSide.f, impl_PointValid_eq, Option.bind_some, impl_PointSide.j0, impl_pairOf.f, impl_pair_minus.f]
  by_cases h : PV a b = true
  · by_cases h' : PV c d = true
    · by_cases h'' : PV e f = true
      · rw [if_pos h, if_pos h', if_neg (by simp [h''])]
        have := PV_iff.1 h; have := PV_iff.1 h'; have := PV_iff.1 h''
        rw [w64 (x := c - a) (by omega) (by omega), w64 (x := d - b) (by omega) (by omega), w64 (x := e - a) (by omega) (by omega), w64 (x := f - b) (by omega) (by omega)]
        simp only [impl_cross_eq h h' h'', Option.bind_some, signInt_eq, sideR_yes h h' h'']
      · rw [if_pos h, if_pos h', if_pos (by simp [h'']), sideR_no (by simp [h''])]
    · rw [if_pos h, if_neg h', if_pos trivial, sideR_no (by simp [h'])]
  · rw [if_neg h, if_pos trivial, sideR_no (by simp [h])]

theorem sgn_zero {x : Int} : sgn x = 0 ↔ x = 0 := by
  unfold sgn
  repeat' split
  all_goals omega

end Go.Proofs.Ytgdhgncdpmalcaa.Pure
namespace Go.Proofs.Ytgdhgncdpmalcaa.Q
open Go.RowKit Go.Proofs.YtgdhgncdpmalcaaW.PrintWords Go.Proofs.YtgdhgncdpmalcaaW.PrintLast Go.Proofs.YtgdhgncdpmalcaaW.PrintMore
attribute [local go_sem] max2_int min2_int max_two min_two max_three min_three max_four min_four
set_option linter.unusedVariables false
set_option linter.unusedSimpArgs false

/-! ### impl_PointOn: function 79 -/
def impl_PointOn.j0 : Nat → Bool → Int → Int → Int → Int → Int → Int → Option (Bool)
  | 0, _, _, _, _, _, _, _ => none
  | k + 1, x21, x289000, x289001, x290000, x290001, x291000, x291001 => if x21 = true then (some false) else ((impl_between.f x289000 x290000 x291000).bind fun t293 => (if t293 = true then ((impl_between.f x289001 x290001 x291001).bind fun t294 => (some t294)) else (some false)))
def impl_PointOn.f (k : Nat) (a0_0 : Int) (a0_1 : Int) (a1_0 : Int) (a1_1 : Int) (a2_0 : Int) (a2_1 : Int) : Option (Bool) := (impl_PointSide.f k a0_0 a0_1 a1_0 a1_1 a2_0 a2_1).bind fun bt291 => (if bt291.2 = true then (impl_PointOn.j0 k (bt291.1 != 0) a0_0 a0_1 a1_0 a1_1 a2_0 a2_1) else (impl_PointOn.j0 k true a0_0 a0_1 a1_0 a1_1 a2_0 a2_1))
set_option maxHeartbeats 8000000 in
set_option maxRecDepth 100000 in
theorem impl_PointOn.calls (k : Nat) (a0_0 : Int) (a0_1 : Int) (a1_0 : Int) (a1_1 : Int) (a2_0 : Int) (a2_1 : Int) (r : Bool) (w : World) (h : impl_PointOn.f k a0_0 a0_1 a1_0 a1_1 a2_0 a2_1 = some r) :
    Calls Try.prog 79 #[.agg #[.int .i64 a0_0, .int .i64 a0_1], .agg #[.int .i64 a1_0, .int .i64 a1_1], .agg #[.int .i64 a2_0, .int .i64 a2_1]] w fun e w' => e = .returned (.bool r) ∧ Below w.heap.size w w' := by
  have hu32 := Try.underlying32
  have HB := Aside0.mk (Below.refl w.heap.size w)
  have H : ((impl_PointSide.f k a0_0 a0_1 a1_0 a1_1 a2_0 a2_1).bind fun bt291 => (if bt291.2 = true then (impl_PointOn.j0 k (bt291.1 != 0) a0_0 a0_1 a1_0 a1_1 a2_0 a2_1) else (impl_PointOn.j0 k true a0_0 a0_1 a1_0 a1_1 a2_0 a2_1))) = some r := h
  clear h
  replace H := Option.bind_eq_some_iff.mp H
  obtain ⟨⟨t291, t292⟩, A40, H⟩ := H
  replace H : (if t292 = true then (impl_PointOn.j0 k (t291 != 0) a0_0 a0_1 a1_0 a1_1 a2_0 a2_1) else (impl_PointOn.j0 k true a0_0 a0_1 a1_0 a1_1 a2_0 a2_1)) = some r := H
  have A4 := Aside0.mk A40
  clear A40
  have HC5 := Aside0.mk H
  clear H
  go_enter Try.func79, Try.ntmps79
  go_upto_region 2 with (first | ((with_reducible refine gate_dst (N := 3) rfl ?_); refine box_event ?hg (N := 3) ?hd (cs := #[.int .i64 a0_0, .int .i64 a0_1]) (t := 32) ?hr ?_; (case hd => rfl); (case hg => rfl); (case hr => exact qq21); intro gb288 hg w6 hbox hb; have n0_ := Aside0.mk (below_step qq1 hb); have n1_ := Aside0.mk (hbox); have n2_ := Aside0.mk ((qq31 : w.heap.size ≤ gb288)); have n3_ := Aside0.mk ((qq31 : w.heap.size ≤ gb288)); clear HB; have HB := n0_; have BK288 := n1_; have GW288 := n2_; have GE288 := n3_; clear n0_ n1_ n2_ n3_; clear hb hbox hg) | ((with_reducible refine gate_dst (N := 4) rfl ?_); refine box_event ?hg (N := 4) ?hd (cs := #[.int .i64 a1_0, .int .i64 a1_1]) (t := 32) ?hr ?_; (case hd => rfl); (case hg => rfl); (case hr => exact qq21); intro gb289 hg w7 hbox hb; have n0_ := Aside0.mk (bbl_ BK288.out hb); have n1_ := Aside0.mk (below_step (qq8 HB.out GE288.out) hb); have n2_ := Aside0.mk (hbox); have n3_ := Aside0.mk ((qq34 HB.out GE288.out : w.heap.size ≤ gb289)); have n4_ := Aside0.mk ((qq34 HB.out GE288.out : w.heap.size ≤ gb289)); have n5_ := Aside0.mk ((qq26 BK288.out : gb288 ≠ gb289)); have n6_ := Aside0.mk ((qq27 BK288.out : gb289 ≠ gb288)); clear BK288; clear HB; have BK288 := n0_; have HB := n1_; have BK289 := n2_; have GW289 := n3_; have GE289 := n4_; have NB288_289 := n5_; have NB289_288 := n6_; clear n0_ n1_ n2_ n3_ n4_ n5_ n6_; clear hb hbox hg) | ((with_reducible refine gate_dst (N := 5) rfl ?_); refine box_event ?hg (N := 5) ?hd (cs := #[.int .i64 a2_0, .int .i64 a2_1]) (t := 32) ?hr ?_; (case hd => rfl); (case hg => rfl); (case hr => exact qq21); intro gb290 hg w8 hbox hb; have n0_ := Aside0.mk (bbl_ BK288.out hb); have n1_ := Aside0.mk (bbl_ BK289.out hb); have n2_ := Aside0.mk (below_step (qq10 HB.out GE288.out GE289.out) hb); have n3_ := Aside0.mk (hbox); have n4_ := Aside0.mk ((qq47 HB.out GE288.out GE289.out : w.heap.size ≤ gb290)); have n5_ := Aside0.mk ((qq47 HB.out GE288.out GE289.out : w.heap.size ≤ gb290)); have n6_ := Aside0.mk ((qq26 BK288.out : gb288 ≠ gb290)); have n7_ := Aside0.mk ((qq27 BK288.out : gb290 ≠ gb288)); have n8_ := Aside0.mk ((qq26 BK289.out : gb289 ≠ gb290)); have n9_ := Aside0.mk ((qq27 BK289.out : gb290 ≠ gb289)); clear BK288; clear BK289; clear HB; have BK288 := n0_; have BK289 := n1_; have HB := n2_; have BK290 := n3_; have GW290 := n4_; have GE290 := n5_; have NB288_290 := n6_; have NB290_288 := n7_; have NB289_290 := n8_; have NB290_289 := n9_; clear n0_ n1_ n2_ n3_ n4_ n5_ n6_ n7_ n8_ n9_; clear hb hbox hg; have hnb9 := NB288_289.out; have hnc9 := NB289_288.out; have hnb10 := NB288_290.out; have hnc10 := NB290_288.out; have hcz11_0 : w8.cell? ⟨gb288, 0, none⟩ = some (.int .i64 a0_0) := (blk_cell BK288.out 0).trans rfl; have hcz11_1 : w8.cell? ⟨gb288, 1, none⟩ = some (.int .i64 a0_1) := (blk_cell BK288.out 1).trans rfl; have hfz11_0 := blk_frozen BK288.out 0; have hfz11_1 := blk_frozen BK288.out 1; have hnb12 := NB289_290.out; have hnc12 := NB290_289.out; have hcz13_0 : w8.cell? ⟨gb289, 0, none⟩ = some (.int .i64 a1_0) := (blk_cell BK289.out 0).trans rfl; have hcz13_1 : w8.cell? ⟨gb289, 1, none⟩ = some (.int .i64 a1_1) := (blk_cell BK289.out 1).trans rfl; have hfz13_0 := blk_frozen BK289.out 0; have hfz13_1 := blk_frozen BK289.out 1; have hcz14_0 : w8.cell? ⟨gb290, 0, none⟩ = some (.int .i64 a2_0) := (blk_cell BK290.out 0).trans rfl; have hcz14_1 : w8.cell? ⟨gb290, 1, none⟩ = some (.int .i64 a2_1) := (blk_cell BK290.out 1).trans rfl; have hfz14_0 := blk_frozen BK290.out 0; have hfz14_1 := blk_frozen BK290.out 1) | ((with_reducible refine gate_callee (f := 62) rfl ?_); refine goesL_ (some 13) rfl rfl Try.func62 (by kernel_rfl) rfl #[.agg #[.int .i64 a0_0, .int .i64 a0_1], .agg #[.int .i64 a1_0, .int .i64 a1_1], .agg #[.int .i64 a2_0, .int .i64 a2_1]] rfl qq2 ?_; (with_reducible refine (impl_PointSide.calls k a0_0 a0_1 a1_0 a1_1 a2_0 a2_1 t291 t292 _ A4.out).mono ?_); rintro e w15 ⟨rfl, hb⟩; refine ⟨_, rfl, ?_⟩; have n0_ := Aside0.mk (bbl_ BK288.out hb); have n1_ := Aside0.mk (bbl_ BK289.out hb); have n2_ := Aside0.mk (bbl_ BK290.out hb); have n3_ := Aside0.mk (below_step (qq7 HB.out GE288.out GE289.out GE290.out) hb); clear BK288; clear BK289; clear BK290; clear HB; have BK288 := n0_; have BK289 := n1_; have BK290 := n2_; have HB := n3_; clear n0_ n1_ n2_ n3_; (try clear hb); (try clear hb2); (try clear hk); (try clear hi)))
  (try simp only [Act.put, List.setIfInBounds_toArray, List.set_cons_zero, List.set_cons_succ])
  go_cut [21] (fun v21 wc => ∃ (kq : Nat) (x21_4 : Bool), v21 = .bool x21_4 ∧ Aside0 (impl_PointOn.j0 kq x21_4 a0_0 a0_1 a1_0 a1_1 a2_0 a2_1 = some r) ∧ Aside0 (kq ≤ k) ∧ Aside0 (wc.heap[gb288]? = some (.cells #[.int .i64 a0_0, .int .i64 a0_1] 32 (0, 0))) ∧ Aside0 (wc.heap[gb289]? = some (.cells #[.int .i64 a1_0, .int .i64 a1_1] 32 (0, 0))) ∧ Aside0 (wc.heap[gb290]? = some (.cells #[.int .i64 a2_0, .int .i64 a2_1] 32 (0, 0))) ∧ Aside0 (Below w.heap.size w wc))
  case first =>
    have H := HC5.out
    clear HC5
    by_cases c16 : t292 = true
    · subst c16
      have H1 : (impl_PointOn.j0 k (t291 != 0) a0_0 a0_1 a1_0 a1_1 a2_0 a2_1) = some r := by rw [if_pos rfl] at H; exact H
      clear H
      have H := H1
      clear H1
      have H' := Aside0.mk H
      clear H
      go_wp2
      go_meet
      case rel => exact ⟨_, ((t291 != 0)), qq23, H', ⟨qq46⟩, ⟨qq9 BK288.out⟩, ⟨qq9 BK289.out⟩, ⟨qq9 BK290.out⟩, ⟨qq7 HB.out GE288.out GE289.out GE290.out⟩⟩
    · replace c16 := Bool.eq_false_iff.mpr c16
      subst c16
      have H1 : (impl_PointOn.j0 k true a0_0 a0_1 a1_0 a1_1 a2_0 a2_1) = some r := by rw [if_neg (show ¬ (false = true) by decide)] at H; exact H
      clear H
      have H := H1
      clear H1
      have H' := Aside0.mk H
      clear H
      go_wp2
      go_meet
      case rel => exact ⟨_, (true), qq23, H', ⟨qq46⟩, ⟨qq9 BK288.out⟩, ⟨qq9 BK289.out⟩, ⟨qq9 BK290.out⟩, ⟨qq7 HB.out GE288.out GE289.out GE290.out⟩⟩
  case rest =>
    clear HC5
    try clear c1
    try clear p2
    try clear c6
    try clear c7
    try clear c9
    try clear c10
    try clear c12
    try clear c16
    try clear hcz11_0
    try clear hcz11_1
    try clear hcz13_0
    try clear hcz13_1
    try clear hcz14_0
    try clear hcz14_1
    try clear hfz11_0
    try clear hfz11_1
    try clear hfz13_0
    try clear hfz13_1
    try clear hfz14_0
    try clear hfz14_1
    obtain ⟨kq, x21_4, rfl, HA, HJ4, BK288, BK289, BK290, HB⟩ := hcut
    cases kq with
    | zero => exact absurd HA.out (by simp [impl_PointOn.j0])
    | succ kj4 =>
      have H := HA.out
      clear HA
      simp only [impl_PointOn.j0] at H
      by_cases c17 : x21_4 = true
      · subst c17
        have H1 : (some false) = some r := by rw [if_pos rfl] at H; exact H
        clear H
        have H := H1
        clear H1
        obtain rfl := Option.some.inj H
        go_wp2
        go_ret
        exact ⟨qq11, qq7 HB.out GE288.out GE289.out GE290.out⟩
      · replace c17 := Bool.eq_false_iff.mpr c17
        subst c17
        have H1 : ((impl_between.f a0_0 a1_0 a2_0).bind fun t293 => (if t293 = true then ((impl_between.f a0_1 a1_1 a2_1).bind fun t294 => (some t294)) else (some false))) = some r := by rw [if_neg (show ¬ (false = true) by decide)] at H; exact H
        clear H
        have H := H1
        clear H1
        replace H := Option.bind_eq_some_iff.mp H
        obtain ⟨t293, A180, H⟩ := H
        replace H : (if t293 = true then ((impl_between.f a0_1 a1_1 a2_1).bind fun t294 => (some t294)) else (some false)) = some r := H
        have A18 := Aside0.mk A180
        clear A180
        by_cases c19 : t293 = true
        · subst c19
          have H1 : ((impl_between.f a0_1 a1_1 a2_1).bind fun t294 => (some t294)) = some r := by rw [if_pos rfl] at H; exact H
          clear H
          have H := H1
          clear H1
          replace H := Option.bind_eq_some_iff.mp H
          obtain ⟨t294, A200, H⟩ := H
          replace H : (some t294) = some r := H
          have A20 := Aside0.mk A200
          clear A200
          obtain rfl := Option.some.inj H
          have hnb21 := NB288_289.out
          have hnc21 := NB289_288.out
          have hnb22 := NB288_290.out
          have hnc22 := NB290_288.out
          have hcz23_0 : wc.cell? ⟨gb288, 0, none⟩ = some (.int .i64 a0_0) := (blk_cell BK288.out 0).trans rfl
          have hcz23_1 : wc.cell? ⟨gb288, 1, none⟩ = some (.int .i64 a0_1) := (blk_cell BK288.out 1).trans rfl
          have hfz23_0 := blk_frozen BK288.out 0
          have hfz23_1 := blk_frozen BK288.out 1
          have hnb24 := NB289_290.out
          have hnc24 := NB290_289.out
          have hcz25_0 : wc.cell? ⟨gb289, 0, none⟩ = some (.int .i64 a1_0) := (blk_cell BK289.out 0).trans rfl
          have hcz25_1 : wc.cell? ⟨gb289, 1, none⟩ = some (.int .i64 a1_1) := (blk_cell BK289.out 1).trans rfl
          have hfz25_0 := blk_frozen BK289.out 0
          have hfz25_1 := blk_frozen BK289.out 1
          have hcz26_0 : wc.cell? ⟨gb290, 0, none⟩ = some (.int .i64 a2_0) := (blk_cell BK290.out 0).trans rfl
          have hcz26_1 : wc.cell? ⟨gb290, 1, none⟩ = some (.int .i64 a2_1) := (blk_cell BK290.out 1).trans rfl
          have hfz26_0 := blk_frozen BK290.out 0
          have hfz26_1 := blk_frozen BK290.out 1
          go_wp2_with (first | ((with_reducible refine gate_callee (f := 85) rfl ?_); refine goesL_ (some 28) rfl rfl Try.func85 (by kernel_rfl) rfl #[.int .i64 a0_0, .int .i64 a1_0, .int .i64 a2_0] rfl qq2 ?_; (with_reducible refine (impl_between.calls a0_0 a1_0 a2_0 true _ A18.out).mono ?_); rintro e w27 ⟨rfl, hb⟩; refine ⟨_, rfl, ?_⟩; have n0_ := Aside0.mk (bbl_ BK288.out hb); have n1_ := Aside0.mk (bbl_ BK289.out hb); have n2_ := Aside0.mk (bbl_ BK290.out hb); have n3_ := Aside0.mk (below_step (qq7 HB.out GE288.out GE289.out GE290.out) hb); clear BK288; clear BK289; clear BK290; clear HB; have BK288 := n0_; have BK289 := n1_; have BK290 := n2_; have HB := n3_; clear n0_ n1_ n2_ n3_; (try clear hb); (try clear hb2); (try clear hk); (try clear hi); have hcz28_0 : w27.cell? ⟨gb288, 0, none⟩ = some (.int .i64 a0_0) := (blk_cell BK288.out 0).trans rfl; have hcz28_1 : w27.cell? ⟨gb288, 1, none⟩ = some (.int .i64 a0_1) := (blk_cell BK288.out 1).trans rfl; have hfz28_0 := blk_frozen BK288.out 0; have hfz28_1 := blk_frozen BK288.out 1; have hcz29_0 : w27.cell? ⟨gb289, 0, none⟩ = some (.int .i64 a1_0) := (blk_cell BK289.out 0).trans rfl; have hcz29_1 : w27.cell? ⟨gb289, 1, none⟩ = some (.int .i64 a1_1) := (blk_cell BK289.out 1).trans rfl; have hfz29_0 := blk_frozen BK289.out 0; have hfz29_1 := blk_frozen BK289.out 1; have hcz30_0 : w27.cell? ⟨gb290, 0, none⟩ = some (.int .i64 a2_0) := (blk_cell BK290.out 0).trans rfl; have hcz30_1 : w27.cell? ⟨gb290, 1, none⟩ = some (.int .i64 a2_1) := (blk_cell BK290.out 1).trans rfl; have hfz30_0 := blk_frozen BK290.out 0; have hfz30_1 := blk_frozen BK290.out 1) | (go_at_call 85; (with_reducible refine (impl_between.calls a0_1 a1_1 a2_1 t294 _ A20.out).mono ?_); rintro e w31 ⟨rfl, hb⟩; have n0_ := Aside0.mk (bbl_ BK288.out hb); have n1_ := Aside0.mk (bbl_ BK289.out hb); have n2_ := Aside0.mk (bbl_ BK290.out hb); have n3_ := Aside0.mk (below_step (qq7 HB.out GE288.out GE289.out GE290.out) hb); clear BK288; clear BK289; clear BK290; clear HB; have BK288 := n0_; have BK289 := n1_; have BK290 := n2_; have HB := n3_; clear n0_ n1_ n2_ n3_; (try clear hb); (try clear hb2); (try clear hk); (try clear hi)))
          go_ret
          exact ⟨qq11, qq7 HB.out GE288.out GE289.out GE290.out⟩
        · replace c19 := Bool.eq_false_iff.mpr c19
          subst c19
          have H1 : (some false) = some r := by rw [if_neg (show ¬ (false = true) by decide)] at H; exact H
          clear H
          have H := H1
          clear H1
          obtain rfl := Option.some.inj H
          have hnb32 := NB288_289.out
          have hnc32 := NB289_288.out
          have hnb33 := NB288_290.out
          have hnc33 := NB290_288.out
          have hcz34_0 : wc.cell? ⟨gb288, 0, none⟩ = some (.int .i64 a0_0) := (blk_cell BK288.out 0).trans rfl
          have hcz34_1 : wc.cell? ⟨gb288, 1, none⟩ = some (.int .i64 a0_1) := (blk_cell BK288.out 1).trans rfl
          have hfz34_0 := blk_frozen BK288.out 0
          have hfz34_1 := blk_frozen BK288.out 1
          have hnb35 := NB289_290.out
          have hnc35 := NB290_289.out
          have hcz36_0 : wc.cell? ⟨gb289, 0, none⟩ = some (.int .i64 a1_0) := (blk_cell BK289.out 0).trans rfl
          have hcz36_1 : wc.cell? ⟨gb289, 1, none⟩ = some (.int .i64 a1_1) := (blk_cell BK289.out 1).trans rfl
          have hfz36_0 := blk_frozen BK289.out 0
          have hfz36_1 := blk_frozen BK289.out 1
          have hcz37_0 : wc.cell? ⟨gb290, 0, none⟩ = some (.int .i64 a2_0) := (blk_cell BK290.out 0).trans rfl
          have hcz37_1 : wc.cell? ⟨gb290, 1, none⟩ = some (.int .i64 a2_1) := (blk_cell BK290.out 1).trans rfl
          have hfz37_0 := blk_frozen BK290.out 0
          have hfz37_1 := blk_frozen BK290.out 1
          go_wp2_with (first | ((with_reducible refine gate_callee (f := 85) rfl ?_); refine goesL_ (some 28) rfl rfl Try.func85 (by kernel_rfl) rfl #[.int .i64 a0_0, .int .i64 a1_0, .int .i64 a2_0] rfl qq2 ?_; (with_reducible refine (impl_between.calls a0_0 a1_0 a2_0 false _ A18.out).mono ?_); rintro e w38 ⟨rfl, hb⟩; refine ⟨_, rfl, ?_⟩; have n0_ := Aside0.mk (bbl_ BK288.out hb); have n1_ := Aside0.mk (bbl_ BK289.out hb); have n2_ := Aside0.mk (bbl_ BK290.out hb); have n3_ := Aside0.mk (below_step (qq7 HB.out GE288.out GE289.out GE290.out) hb); clear BK288; clear BK289; clear BK290; clear HB; have BK288 := n0_; have BK289 := n1_; have BK290 := n2_; have HB := n3_; clear n0_ n1_ n2_ n3_; (try clear hb); (try clear hb2); (try clear hk); (try clear hi)))
          go_ret
          exact ⟨qq11, qq7 HB.out GE288.out GE289.out GE290.out⟩

end Go.Proofs.Ytgdhgncdpmalcaa.Q
