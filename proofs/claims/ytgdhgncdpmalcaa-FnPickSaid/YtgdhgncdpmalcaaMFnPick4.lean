/- Part 4 of what the proof of this law rests on: the functions of the translation as plain Lean functions with their walks, and the plain laws behind. -/
import Derived.Test.YtgdhgncdpmalcaaMFnPick3
namespace Go.Proofs.Ytgdhgncdpmalcaa.Q
open Go.RowKit Go.Proofs.YtgdhgncdpmalcaaW.PrintWords Go.Proofs.YtgdhgncdpmalcaaW.PrintLast Go.Proofs.YtgdhgncdpmalcaaW.PrintMore
attribute [local go_sem] max2_int min2_int max_two min_two max_three min_three max_four min_four
set_option linter.unusedVariables false
set_option linter.unusedSimpArgs false

/-! ### spec_l92Box: function 59 -/
def spec_l92Box.j0 : Nat → Int → Int → List (S32) → Bool → List Int → Int → Option ((List (S32)) × Int)
  | 0, _, _, _, _, _, _ => none
  | k + 1, x3, x4, x7, x47, x1000, x1001 => if x47 = true then ((some (([(⟨x3, x4⟩ : S32), (⟨wrap64 (x3 + 1), x4⟩ : S32)] : List (S32)) : List (S32))).bind fun y135 => (if 1 ≤ (x7.length : Int) then ((some (x7.drop 1 : List (S32))).bind fun y138 => (if y135.length + y138.length < 8796093022208 then ((some (y135 ++ y138 : List (S32))).bind fun y142 => ((spec_l6Rd_pick.f k x1000 x1001 3).bind fun bt145 => (if bt145.1 = 0 then (if 1 ≤ y142.length ∧ y142.length ≤ 100 then (some (y142.drop 1 ++ [rd_T32 y142 0], bt145.2)) else none) else (some (y142, bt145.2))))) else (none))) else (none))) else ((spec_l6Rd_pick.f k x1000 x1001 3).bind fun bt147 => (if bt147.1 = 0 then (if 1 ≤ x7.length ∧ x7.length ≤ 100 then (some (x7.drop 1 ++ [rd_T32 x7 0], bt147.2)) else none) else (some (x7, bt147.2))))
def spec_l92Box.f (k : Nat) (s0_0 : List Int) (s0_1 : Int) : Option ((List (S32)) × Int) := (spec_l6Rd_pick.f k s0_0 s0_1 5).bind fun bt122 => ((spec_l6Rd_pick.f k s0_0 bt122.2 5).bind fun bt124 => ((spec_l6Rd_pick.f k s0_0 bt124.2 5).bind fun bt126 => ((spec_l6Rd_pick.f k s0_0 bt126.2 5).bind fun bt128 => ((some (([(⟨wrap64 (bt122.1 - 2), wrap64 (bt124.1 - 2)⟩ : S32), (⟨wrap64 ((wrap64 (bt122.1 - 2)) + (wrap64 (1 + bt126.1))), wrap64 (bt124.1 - 2)⟩ : S32), (⟨wrap64 ((wrap64 (bt122.1 - 2)) + (wrap64 (1 + bt126.1))), wrap64 ((wrap64 (bt124.1 - 2)) + (wrap64 (1 + bt128.1)))⟩ : S32), (⟨wrap64 (bt122.1 - 2), wrap64 ((wrap64 (bt124.1 - 2)) + (wrap64 (1 + bt128.1)))⟩ : S32)] : List (S32)) : List (S32))).bind fun y130 => (if (wrap64 (1 + bt126.1)) > 1 then ((spec_l6Rd_pick.f k s0_0 bt128.2 2).bind fun bt133 => (spec_l92Box.j0 k (wrap64 (bt122.1 - 2)) (wrap64 (bt124.1 - 2)) y130 (bt133.1 == 0) s0_0 bt133.2)) else (spec_l92Box.j0 k (wrap64 (bt122.1 - 2)) (wrap64 (bt124.1 - 2)) y130 false s0_0 bt128.2))))))
set_option maxHeartbeats 8000000 in
set_option maxRecDepth 100000 in
theorem spec_l92Box.calls (k : Nat) (g : Nat) (s0_0 : List Int) (s0_1 : Int) (r1 : List (S32)) (r2 : Int) (w0 w : World) (hI : IsS81 w0 w g s0_0 s0_1) (hB : Below w0.heap.size w0 w) (h : spec_l92Box.f k s0_0 s0_1 = some (r1, r2)) :
    Calls Try.prog 59 #[.pointer (some ⟨g, 0, none⟩)] w fun e w' => ∃ v0_ : Value, e = .returned (v0_) ∧ Kd.Q k32 32 w' w.heap.size (fun _ => True) v0_ r1 ∧ IsS81 w0 w' g s0_0 r2 ∧ Below w0.heap.size w0 w' ∧ KeepBut w w' g none := by
  have hu32 := Try.underlying32
  have HI0 := Aside0.mk hI
  have HK := Aside0.mk (KeepBut.refl w g none)
  have HL := Aside0.mk hB.size
  clear hI
  have HW0 := Aside0.mk hB.size
  have HB := Aside0.mk hB
  clear hB
  have H : ((spec_l6Rd_pick.f k s0_0 s0_1 5).bind fun bt122 => ((spec_l6Rd_pick.f k s0_0 bt122.2 5).bind fun bt124 => ((spec_l6Rd_pick.f k s0_0 bt124.2 5).bind fun bt126 => ((spec_l6Rd_pick.f k s0_0 bt126.2 5).bind fun bt128 => ((some (([(⟨wrap64 (bt122.1 - 2), wrap64 (bt124.1 - 2)⟩ : S32), (⟨wrap64 ((wrap64 (bt122.1 - 2)) + (wrap64 (1 + bt126.1))), wrap64 (bt124.1 - 2)⟩ : S32), (⟨wrap64 ((wrap64 (bt122.1 - 2)) + (wrap64 (1 + bt126.1))), wrap64 ((wrap64 (bt124.1 - 2)) + (wrap64 (1 + bt128.1)))⟩ : S32), (⟨wrap64 (bt122.1 - 2), wrap64 ((wrap64 (bt124.1 - 2)) + (wrap64 (1 + bt128.1)))⟩ : S32)] : List (S32)) : List (S32))).bind fun y130 => (if (wrap64 (1 + bt126.1)) > 1 then ((spec_l6Rd_pick.f k s0_0 bt128.2 2).bind fun bt133 => (spec_l92Box.j0 k (wrap64 (bt122.1 - 2)) (wrap64 (bt124.1 - 2)) y130 (bt133.1 == 0) s0_0 bt133.2)) else (spec_l92Box.j0 k (wrap64 (bt122.1 - 2)) (wrap64 (bt124.1 - 2)) y130 false s0_0 bt128.2))))))) = some (r1, r2) := h
  clear h
  replace H := Option.bind_eq_some_iff.mp H
  obtain ⟨⟨t122, t123⟩, A20, H⟩ := H
  replace H : ((spec_l6Rd_pick.f k s0_0 t123 5).bind fun bt124 => ((spec_l6Rd_pick.f k s0_0 bt124.2 5).bind fun bt126 => ((spec_l6Rd_pick.f k s0_0 bt126.2 5).bind fun bt128 => ((some (([(⟨wrap64 (t122 - 2), wrap64 (bt124.1 - 2)⟩ : S32), (⟨wrap64 ((wrap64 (t122 - 2)) + (wrap64 (1 + bt126.1))), wrap64 (bt124.1 - 2)⟩ : S32), (⟨wrap64 ((wrap64 (t122 - 2)) + (wrap64 (1 + bt126.1))), wrap64 ((wrap64 (bt124.1 - 2)) + (wrap64 (1 + bt128.1)))⟩ : S32), (⟨wrap64 (t122 - 2), wrap64 ((wrap64 (bt124.1 - 2)) + (wrap64 (1 + bt128.1)))⟩ : S32)] : List (S32)) : List (S32))).bind fun y130 => (if (wrap64 (1 + bt126.1)) > 1 then ((spec_l6Rd_pick.f k s0_0 bt128.2 2).bind fun bt133 => (spec_l92Box.j0 k (wrap64 (t122 - 2)) (wrap64 (bt124.1 - 2)) y130 (bt133.1 == 0) s0_0 bt133.2)) else (spec_l92Box.j0 k (wrap64 (t122 - 2)) (wrap64 (bt124.1 - 2)) y130 false s0_0 bt128.2)))))) = some (r1, r2) := H
  have A2 := Aside0.mk A20
  clear A20
  replace H := Option.bind_eq_some_iff.mp H
  obtain ⟨⟨t124, t125⟩, A30, H⟩ := H
  replace H : ((spec_l6Rd_pick.f k s0_0 t125 5).bind fun bt126 => ((spec_l6Rd_pick.f k s0_0 bt126.2 5).bind fun bt128 => ((some (([(⟨wrap64 (t122 - 2), wrap64 (t124 - 2)⟩ : S32), (⟨wrap64 ((wrap64 (t122 - 2)) + (wrap64 (1 + bt126.1))), wrap64 (t124 - 2)⟩ : S32), (⟨wrap64 ((wrap64 (t122 - 2)) + (wrap64 (1 + bt126.1))), wrap64 ((wrap64 (t124 - 2)) + (wrap64 (1 + bt128.1)))⟩ : S32), (⟨wrap64 (t122 - 2), wrap64 ((wrap64 (t124 - 2)) + (wrap64 (1 + bt128.1)))⟩ : S32)] : List (S32)) : List (S32))).bind fun y130 => (if (wrap64 (1 + bt126.1)) > 1 then ((spec_l6Rd_pick.f k s0_0 bt128.2 2).bind fun bt133 => (spec_l92Box.j0 k (wrap64 (t122 - 2)) (wrap64 (t124 - 2)) y130 (bt133.1 == 0) s0_0 bt133.2)) else (spec_l92Box.j0 k (wrap64 (t122 - 2)) (wrap64 (t124 - 2)) y130 false s0_0 bt128.2))))) = some (r1, r2) := H
  have A3 := Aside0.mk A30
  clear A30
  replace H := Option.bind_eq_some_iff.mp H
  obtain ⟨⟨t126, t127⟩, A40, H⟩ := H
  replace H : ((spec_l6Rd_pick.f k s0_0 t127 5).bind fun bt128 => ((some (([(⟨wrap64 (t122 - 2), wrap64 (t124 - 2)⟩ : S32), (⟨wrap64 ((wrap64 (t122 - 2)) + (wrap64 (1 + t126))), wrap64 (t124 - 2)⟩ : S32), (⟨wrap64 ((wrap64 (t122 - 2)) + (wrap64 (1 + t126))), wrap64 ((wrap64 (t124 - 2)) + (wrap64 (1 + bt128.1)))⟩ : S32), (⟨wrap64 (t122 - 2), wrap64 ((wrap64 (t124 - 2)) + (wrap64 (1 + bt128.1)))⟩ : S32)] : List (S32)) : List (S32))).bind fun y130 => (if (wrap64 (1 + t126)) > 1 then ((spec_l6Rd_pick.f k s0_0 bt128.2 2).bind fun bt133 => (spec_l92Box.j0 k (wrap64 (t122 - 2)) (wrap64 (t124 - 2)) y130 (bt133.1 == 0) s0_0 bt133.2)) else (spec_l92Box.j0 k (wrap64 (t122 - 2)) (wrap64 (t124 - 2)) y130 false s0_0 bt128.2)))) = some (r1, r2) := H
  have A4 := Aside0.mk A40
  clear A40
  replace H := Option.bind_eq_some_iff.mp H
  obtain ⟨⟨t128, t129⟩, A50, H⟩ := H
  replace H : ((some (([(⟨wrap64 (t122 - 2), wrap64 (t124 - 2)⟩ : S32), (⟨wrap64 ((wrap64 (t122 - 2)) + (wrap64 (1 + t126))), wrap64 (t124 - 2)⟩ : S32), (⟨wrap64 ((wrap64 (t122 - 2)) + (wrap64 (1 + t126))), wrap64 ((wrap64 (t124 - 2)) + (wrap64 (1 + t128)))⟩ : S32), (⟨wrap64 (t122 - 2), wrap64 ((wrap64 (t124 - 2)) + (wrap64 (1 + t128)))⟩ : S32)] : List (S32)) : List (S32))).bind fun y130 => (if (wrap64 (1 + t126)) > 1 then ((spec_l6Rd_pick.f k s0_0 t129 2).bind fun bt133 => (spec_l92Box.j0 k (wrap64 (t122 - 2)) (wrap64 (t124 - 2)) y130 (bt133.1 == 0) s0_0 bt133.2)) else (spec_l92Box.j0 k (wrap64 (t122 - 2)) (wrap64 (t124 - 2)) y130 false s0_0 t129))) = some (r1, r2) := H
  have A5 := Aside0.mk A50
  clear A50
  obtain ⟨y130, hy130⟩ : ∃ y_ : List (S32), y_ = (([(⟨wrap64 (t122 - 2), wrap64 (t124 - 2)⟩ : S32), (⟨wrap64 ((wrap64 (t122 - 2)) + (wrap64 (1 + t126))), wrap64 (t124 - 2)⟩ : S32), (⟨wrap64 ((wrap64 (t122 - 2)) + (wrap64 (1 + t126))), wrap64 ((wrap64 (t124 - 2)) + (wrap64 (1 + t128)))⟩ : S32), (⟨wrap64 (t122 - 2), wrap64 ((wrap64 (t124 - 2)) + (wrap64 (1 + t128)))⟩ : S32)] : List (S32))) := ⟨_, rfl⟩
  replace H : (if (wrap64 (1 + t126)) > 1 then ((spec_l6Rd_pick.f k s0_0 t129 2).bind fun bt133 => (spec_l92Box.j0 k (wrap64 (t122 - 2)) (wrap64 (t124 - 2)) y130 (bt133.1 == 0) s0_0 bt133.2)) else (spec_l92Box.j0 k (wrap64 (t122 - 2)) (wrap64 (t124 - 2)) y130 false s0_0 t129)) = some (r1, r2) := by first | (rw [hy130]; with_reducible exact H) | (have H2_ := (Option.bind_some _ _).symm.trans H; rw [hy130]; with_reducible exact H2_) | (have H2_ := (Option.bind_some _ _).symm.trans H; with_reducible exact H2_) | with_reducible exact H | (rw [hy130]; exact H) | exact H
  have Ny130 := Aside0.mk hy130
  clear hy130
  have HC6 := Aside0.mk H
  clear H
  go_enter Try.func59, Try.ntmps59
  go_upto_region 6 with (first | ((with_reducible refine gate_callee (f := 48) rfl ?_); refine goesL_ (some 9) rfl rfl Try.func48 (by kernel_rfl) rfl #[.pointer (some ⟨g, 0, none⟩), .int .i64 5] rfl qq2 ?_; (with_reducible refine (spec_l6Rd_pick.calls k g s0_0 s0_1 5 t122 t123 w0 _ ?side1 ?side2 A2.out).mono ?_); (case side1 => exact qq8); (case side2 => exact qq7); rintro e w7 ⟨rfl, hi, hb, hk⟩; refine ⟨_, rfl, ?_⟩; have n0_ := Aside0.mk (KeepBut.trans qq4 hk (.inl rfl)); have n1_ := Aside0.mk (hb); have n2_ := Aside0.mk (hi); clear HK; clear HB; clear HI0; have HK := n0_; have HB := n1_; have HI0 := n2_; clear n0_ n1_ n2_; (try clear hb); (try clear hb2); (try clear hk); (try clear hi)) | ((with_reducible refine gate_callee (f := 48) rfl ?_); refine goesL_ (some 12) rfl rfl Try.func48 (by kernel_rfl) rfl #[.pointer (some ⟨g, 0, none⟩), .int .i64 5] rfl qq2 ?_; (with_reducible refine (spec_l6Rd_pick.calls k g s0_0 t123 5 t124 t125 w0 _ ?side1 ?side2 A3.out).mono ?_); (case side1 => exact qq8); (case side2 => exact qq7); rintro e w8 ⟨rfl, hi, hb, hk⟩; refine ⟨_, rfl, ?_⟩; have n0_ := Aside0.mk (KeepBut.trans qq4 hk (.inl rfl)); have n1_ := Aside0.mk (hb); have n2_ := Aside0.mk (hi); clear HK; clear HB; clear HI0; have HK := n0_; have HB := n1_; have HI0 := n2_; clear n0_ n1_ n2_; (try clear hb); (try clear hb2); (try clear hk); (try clear hi)) | ((with_reducible refine gate_callee (f := 48) rfl ?_); refine goesL_ (some 15) rfl rfl Try.func48 (by kernel_rfl) rfl #[.pointer (some ⟨g, 0, none⟩), .int .i64 5] rfl qq2 ?_; (with_reducible refine (spec_l6Rd_pick.calls k g s0_0 t125 5 t126 t127 w0 _ ?side1 ?side2 A4.out).mono ?_); (case side1 => exact qq8); (case side2 => exact qq7); rintro e w9 ⟨rfl, hi, hb, hk⟩; refine ⟨_, rfl, ?_⟩; have n0_ := Aside0.mk (KeepBut.trans qq4 hk (.inl rfl)); have n1_ := Aside0.mk (hb); have n2_ := Aside0.mk (hi); clear HK; clear HB; clear HI0; have HK := n0_; have HB := n1_; have HI0 := n2_; clear n0_ n1_ n2_; (try clear hb); (try clear hb2); (try clear hk); (try clear hi)) | ((with_reducible refine gate_callee (f := 48) rfl ?_); refine goesL_ (some 18) rfl rfl Try.func48 (by kernel_rfl) rfl #[.pointer (some ⟨g, 0, none⟩), .int .i64 5] rfl qq2 ?_; (with_reducible refine (spec_l6Rd_pick.calls k g s0_0 t127 5 t128 t129 w0 _ ?side1 ?side2 A5.out).mono ?_); (case side1 => exact qq8); (case side2 => exact qq7); rintro e w10 ⟨rfl, hi, hb, hk⟩; refine ⟨_, rfl, ?_⟩; have n0_ := Aside0.mk (KeepBut.trans qq4 hk (.inl rfl)); have n1_ := Aside0.mk (hb); have n2_ := Aside0.mk (hi); clear HK; clear HB; clear HI0; have HK := n0_; have HB := n1_; have HI0 := n2_; clear n0_ n1_ n2_; (try clear hb); (try clear hb2); (try clear hk); (try clear hi)) | ((with_reducible refine gate_dst (N := 40) rfl ?_); refine Kd.R_lit k32 _ 32 ?hg (N := 40) ?hd (xs := ([(⟨wrap64 (t122 - 2), wrap64 (t124 - 2)⟩ : S32), (⟨wrap64 ((wrap64 (t122 - 2)) + (wrap64 (1 + t126))), wrap64 (t124 - 2)⟩ : S32), (⟨wrap64 ((wrap64 (t122 - 2)) + (wrap64 (1 + t126))), wrap64 ((wrap64 (t124 - 2)) + (wrap64 (1 + t128)))⟩ : S32), (⟨wrap64 (t122 - 2), wrap64 ((wrap64 (t124 - 2)) + (wrap64 (1 + t128)))⟩ : S32)] : List (S32))) (inner := [.int .i64 (wrap64 (t122 - 2)), .int .i64 (wrap64 (t124 - 2)), .int .i64 (wrap64 ((wrap64 (t122 - 2)) + (wrap64 (1 + t126)))), .int .i64 (wrap64 (t124 - 2)), .int .i64 (wrap64 ((wrap64 (t122 - 2)) + (wrap64 (1 + t126)))), .int .i64 (wrap64 ((wrap64 (t124 - 2)) + (wrap64 (1 + t128)))), .int .i64 (wrap64 (t122 - 2)), .int .i64 (wrap64 ((wrap64 (t124 - 2)) + (wrap64 (1 + t128))))]) (ok := fun _ => True) (okp := fun _ => True) ?hr ?hp (fun _ hk => hk) trivial (Below.refl _ _) (Nat.le_refl _) (by simp) ?_; (case hd => rfl); (case hg => rfl); (case hr => exact qq16); (case hp => exact (Reps.c2 (show Kd.M k32 _ _ _ (⟨wrap64 (t122 - 2), wrap64 (t124 - 2)⟩ : S32) [.int .i64 (wrap64 (t122 - 2)), .int .i64 (wrap64 (t124 - 2))] from (k32_mkM _ _ _ (⟨wrap64 (t122 - 2), wrap64 (t124 - 2)⟩ : S32) )) (Reps.c2 (show Kd.M k32 _ _ _ (⟨wrap64 ((wrap64 (t122 - 2)) + (wrap64 (1 + t126))), wrap64 (t124 - 2)⟩ : S32) [.int .i64 (wrap64 ((wrap64 (t122 - 2)) + (wrap64 (1 + t126)))), .int .i64 (wrap64 (t124 - 2))] from (k32_mkM _ _ _ (⟨wrap64 ((wrap64 (t122 - 2)) + (wrap64 (1 + t126))), wrap64 (t124 - 2)⟩ : S32) )) (Reps.c2 (show Kd.M k32 _ _ _ (⟨wrap64 ((wrap64 (t122 - 2)) + (wrap64 (1 + t126))), wrap64 ((wrap64 (t124 - 2)) + (wrap64 (1 + t128)))⟩ : S32) [.int .i64 (wrap64 ((wrap64 (t122 - 2)) + (wrap64 (1 + t126)))), .int .i64 (wrap64 ((wrap64 (t124 - 2)) + (wrap64 (1 + t128))))] from (k32_mkM _ _ _ (⟨wrap64 ((wrap64 (t122 - 2)) + (wrap64 (1 + t126))), wrap64 ((wrap64 (t124 - 2)) + (wrap64 (1 + t128)))⟩ : S32) )) (Reps.c2 (show Kd.M k32 _ _ _ (⟨wrap64 (t122 - 2), wrap64 ((wrap64 (t124 - 2)) + (wrap64 (1 + t128)))⟩ : S32) [.int .i64 (wrap64 (t122 - 2)), .int .i64 (wrap64 ((wrap64 (t124 - 2)) + (wrap64 (1 + t128))))] from (k32_mkM _ _ _ (⟨wrap64 (t122 - 2), wrap64 ((wrap64 (t124 - 2)) + (wrap64 (1 + t128)))⟩ : S32) )) (Reps.none _ _)))))); intro v131 w11 ho12 hb hg_ hnew_; clear hg_ hnew_; (first | rw [← Ny130.out] at ho12 | (simp only [Int.reduceToNat] at ho12; rw [← Ny130.out] at ho12)); have n0_ := Aside0.mk (Kd.R_lower ho12 (keep_size (w := w) (g := g) (row := none) qq4)); have n1_ := Aside0.mk (IsS81.below qq8 hb); have n2_ := Aside0.mk (KeepBut.trans qq4 (KeepBut.of_below hb g none) (.inl rfl)); have n3_ := Aside0.mk (below_step qq7 hb); clear HI0; clear HK; clear HB; have HO132 := n0_; have HI0 := n1_; have HK := n2_; have HB := n3_; clear n0_ n1_ n2_ n3_; clear hb ho12))
  (try simp only [Act.put, List.setIfInBounds_toArray, List.set_cons_zero, List.set_cons_succ])
  go_cut [47] (fun v47 wc => ∃ (kq : Nat) (x47_5 : Bool) (x1001_5 : Int), v47 = .bool x47_5 ∧ Aside0 (spec_l92Box.j0 kq (wrap64 (t122 - 2)) (wrap64 (t124 - 2)) y130 x47_5 s0_0 x1001_5 = some (r1, r2)) ∧ Aside0 (kq ≤ k) ∧ Aside0 (Kd.R k32 32 wc w.heap.size (fun _ => True) v131 y130) ∧ Aside0 (IsS81 w0 wc g s0_0 x1001_5) ∧ Aside0 (KeepBut w wc g none) ∧ Aside0 (Below w0.heap.size w0 wc))
  case first =>
    have H := HC6.out
    clear HC6
    by_cases c13 : (wrap64 (1 + t126)) > 1
    · rw [if_pos c13] at H
      have c13b0 : decide (1 < (wrap64 (1 + t126))) = true := decide_eq_true c13
      clear c13
      (first | rw [c13b0] | (simp only [i64_w, i32_w]; rw [c13b0]) | skip)
      replace H := Option.bind_eq_some_iff.mp H
      obtain ⟨⟨t133, t134⟩, A140, H⟩ := H
      replace H : (spec_l92Box.j0 k (wrap64 (t122 - 2)) (wrap64 (t124 - 2)) y130 (t133 == 0) s0_0 t134) = some (r1, r2) := H
      have A14 := Aside0.mk A140
      clear A140
      have H' := Aside0.mk H
      clear H
      go_wp2_with (first | (go_at_call 48; (with_reducible refine (spec_l6Rd_pick.calls k g s0_0 t129 2 t133 t134 w0 _ ?side1 ?side2 A14.out).mono ?_); (case side1 => exact qq8); (case side2 => exact qq7); rintro e w15 ⟨rfl, hi, hb, hk⟩; have n0_ := Aside0.mk (Kd.R_mono (Kd.R_keep (IsS81.apart (show IsS81 w0 _ g s0_0 t129 from by repeat (first | (with_reducible first | exact HI0.out | apply IsS81.alloc | apply IsS81.drewN | apply IsS81.drew | apply IsS81.set_1) | exact HI0.out)) (qq11 HO132.out) (by decide)) hk (fun _ h => h.2)) (fun _ h => h.1)); have n1_ := Aside0.mk (KeepBut.trans qq4 hk (.inl rfl)); have n2_ := Aside0.mk (hb); have n3_ := Aside0.mk (hi); clear HO132; clear HK; clear HB; clear HI0; have HO132 := n0_; have HK := n1_; have HB := n2_; have HI0 := n3_; clear n0_ n1_ n2_ n3_; (try clear hb); (try clear hb2); (try clear hk); (try clear hi)))
      go_meet
      case rel => exact ⟨_, ((t133 == 0)), (t134), qq13, H', ⟨qq43⟩, ⟨qq11 HO132.out⟩, ⟨qq8⟩, ⟨qq4⟩, ⟨qq7⟩⟩
    · rw [if_neg c13] at H
      have c13b0 : decide (1 < (wrap64 (1 + t126))) = false := decide_eq_false c13
      clear c13
      (first | rw [c13b0] | (simp only [i64_w, i32_w]; rw [c13b0]) | skip)
      have H' := Aside0.mk H
      clear H
      go_wp2
      go_meet
      case rel => exact ⟨_, (false), (t129), qq13, H', ⟨qq43⟩, ⟨qq11 HO132.out⟩, ⟨qq8⟩, ⟨qq4⟩, ⟨qq7⟩⟩
  case rest =>
    clear HC6
    try clear c1
    try clear c2
    try clear p2
    try clear c4
    try clear c5
    try clear p6
    try clear c13
    try clear c13b0
    obtain ⟨kq, x47_5, x1001_5, rfl, HA, HJ5, HO_7, HI0, HK, HB⟩ := hcut
    cases kq with
    | zero => exact absurd HA.out (by simp [spec_l92Box.j0])
    | succ kj5 =>
      have H := HA.out
      clear HA
      simp only [spec_l92Box.j0] at H
      by_cases c16 : x47_5 = true
      · subst c16
        have H1 : ((some (([(⟨(wrap64 (t122 - 2)), (wrap64 (t124 - 2))⟩ : S32), (⟨wrap64 ((wrap64 (t122 - 2)) + 1), (wrap64 (t124 - 2))⟩ : S32)] : List (S32)) : List (S32))).bind fun y135 => (if 1 ≤ (y130.length : Int) then ((some (y130.drop 1 : List (S32))).bind fun y138 => (if y135.length + y138.length < 8796093022208 then ((some (y135 ++ y138 : List (S32))).bind fun y142 => ((spec_l6Rd_pick.f kj5 s0_0 x1001_5 3).bind fun bt145 => (if bt145.1 = 0 then (if 1 ≤ y142.length ∧ y142.length ≤ 100 then (some (y142.drop 1 ++ [rd_T32 y142 0], bt145.2)) else none) else (some (y142, bt145.2))))) else (none))) else (none))) = some (r1, r2) := by rw [if_pos rfl] at H; exact H
        clear H
        have H := H1
        clear H1
        obtain ⟨y135, hy135⟩ : ∃ y_ : List (S32), y_ = (([(⟨(wrap64 (t122 - 2)), (wrap64 (t124 - 2))⟩ : S32), (⟨wrap64 ((wrap64 (t122 - 2)) + 1), (wrap64 (t124 - 2))⟩ : S32)] : List (S32))) := ⟨_, rfl⟩
        replace H : (if 1 ≤ (y130.length : Int) then ((some (y130.drop 1 : List (S32))).bind fun y138 => (if y135.length + y138.length < 8796093022208 then ((some (y135 ++ y138 : List (S32))).bind fun y142 => ((spec_l6Rd_pick.f kj5 s0_0 x1001_5 3).bind fun bt145 => (if bt145.1 = 0 then (if 1 ≤ y142.length ∧ y142.length ≤ 100 then (some (y142.drop 1 ++ [rd_T32 y142 0], bt145.2)) else none) else (some (y142, bt145.2))))) else (none))) else (none)) = some (r1, r2) := by first | (rw [hy135]; with_reducible exact H) | (have H2_ := (Option.bind_some _ _).symm.trans H; rw [hy135]; with_reducible exact H2_) | (have H2_ := (Option.bind_some _ _).symm.trans H; with_reducible exact H2_) | with_reducible exact H | (rw [hy135]; exact H) | exact H
        have Ny135 := Aside0.mk hy135
        clear hy135
        by_cases c17 : 1 ≤ (y130.length : Int)
        · rw [if_pos c17] at H
          have c17b0 := eq_true c17
          have c17b1 : decide (1 ≤ (y130.length : Int)) = true := decide_eq_true c17
          clear c17
          obtain ⟨y138, hy138⟩ : ∃ y_ : List (S32), y_ = (y130.drop 1) := ⟨_, rfl⟩
          replace H : (if y135.length + y138.length < 8796093022208 then ((some (y135 ++ y138 : List (S32))).bind fun y142 => ((spec_l6Rd_pick.f kj5 s0_0 x1001_5 3).bind fun bt145 => (if bt145.1 = 0 then (if 1 ≤ y142.length ∧ y142.length ≤ 100 then (some (y142.drop 1 ++ [rd_T32 y142 0], bt145.2)) else none) else (some (y142, bt145.2))))) else (none)) = some (r1, r2) := by first | (rw [hy138]; with_reducible exact H) | (have H2_ := (Option.bind_some _ _).symm.trans H; rw [hy138]; with_reducible exact H2_) | (have H2_ := (Option.bind_some _ _).symm.trans H; with_reducible exact H2_) | with_reducible exact H | (rw [hy138]; exact H) | exact H
          have Ny138 := Aside0.mk hy138
          clear hy138
          by_cases c18 : y135.length + y138.length < 8796093022208
          · rw [if_pos c18] at H
            have LMc18 := Aside0.mk c18
            clear c18
            obtain ⟨y142, hy142⟩ : ∃ y_ : List (S32), y_ = (y135 ++ y138) := ⟨_, rfl⟩
            replace H : ((spec_l6Rd_pick.f kj5 s0_0 x1001_5 3).bind fun bt145 => (if bt145.1 = 0 then (if 1 ≤ y142.length ∧ y142.length ≤ 100 then (some (y142.drop 1 ++ [rd_T32 y142 0], bt145.2)) else none) else (some (y142, bt145.2)))) = some (r1, r2) := by first | (rw [hy142]; with_reducible exact H) | (have H2_ := (Option.bind_some _ _).symm.trans H; rw [hy142]; with_reducible exact H2_) | (have H2_ := (Option.bind_some _ _).symm.trans H; with_reducible exact H2_) | with_reducible exact H | (rw [hy142]; exact H) | exact H
            have Ny142 := Aside0.mk hy142
            clear hy142
            replace H := Option.bind_eq_some_iff.mp H
            obtain ⟨⟨t145, t146⟩, A190, H⟩ := H
            replace H : (if t145 = 0 then (if 1 ≤ y142.length ∧ y142.length ≤ 100 then (some (y142.drop 1 ++ [rd_T32 y142 0], t146)) else none) else (some (y142, t146))) = some (r1, r2) := H
            have A19 := Aside0.mk A190
            clear A190
            by_cases c20 : t145 = 0
            · rw [if_pos c20] at H
              have c20b0 : (t145 == 0) = true := beq_iff_eq.mpr c20
              have c20b1 : (t145 != 0) = false := bne_eq_false_iff_eq.mpr c20
              clear c20
              by_cases hl9 : 1 ≤ y142.length ∧ y142.length ≤ 100
              case neg => rw [if_neg hl9] at H; exact absurd H (by simp)
              rw [if_pos hl9] at H
              simp only [Option.some.injEq, Prod.mk.injEq] at H
              obtain ⟨hr1, rfl⟩ := H; have HR1 := Aside0.mk hr1; clear hr1
              go_wp2_with (first | ((with_reducible refine gate_dst (N := 55) rfl ?_); refine Kd.R_lit k32 _ 32 ?hg (N := 55) ?hd (xs := ([(⟨(wrap64 (t122 - 2)), (wrap64 (t124 - 2))⟩ : S32), (⟨wrap64 ((wrap64 (t122 - 2)) + 1), (wrap64 (t124 - 2))⟩ : S32)] : List (S32))) (inner := [.int .i64 (wrap64 (t122 - 2)), .int .i64 (wrap64 (t124 - 2)), .int .i64 (wrap64 ((wrap64 (t122 - 2)) + 1)), .int .i64 (wrap64 (t124 - 2))]) (ok := fun _ => True) (okp := fun _ => True) ?hr ?hp (fun _ hk => hk) trivial (Below.refl _ _) (Nat.le_refl _) (by simp) ?_; (case hd => rfl); (case hg => rfl); (case hr => exact qq16); (case hp => exact qq40); intro v136 w21 ho22 hb hg_ hnew_; clear hg_ hnew_; (first | rw [← Ny135.out] at ho22 | (simp only [Int.reduceToNat] at ho22; rw [← Ny135.out] at ho22)); have n0_ := Aside0.mk (Kd.R_elder' (qq11 HO_7.out) (Kd.R_base ho22) hb); have n1_ := Aside0.mk (Kd.R_lower (Kd.R_new' ho22 (Kd.R_lt (qq11 HO_7.out))) (keep_size (w := w) (g := g) (row := none) qq4)); have n2_ := Aside0.mk (IsS81.below qq8 hb); have n3_ := Aside0.mk (KeepBut.trans qq4 (KeepBut.of_below hb g none) (.inl rfl)); have n4_ := Aside0.mk (below_step qq7 hb); clear HO_7; clear HI0; clear HK; clear HB; have HO_7 := n0_; have HO137 := n1_; have HI0 := n2_; have HK := n3_; have HB := n4_; clear n0_ n1_ n2_ n3_ n4_; clear hb ho22; obtain ⟨Ao24, co24, eo24⟩ := Kd.R_slice HO_7.out; subst eo24; have q23 : (1 : Int) ≤ ((y130.length : Int) : Int) := of_decide_eq_true qq18; obtain ⟨i023, hi023, _, hsz23, _⟩ := info_parts info32; have hroom23 : y130.length ≤ co24 := (Kd.R_reads' HO_7.out).2.1; have hC23 : Kd.C k32 _ Ao24 y130.length y130 := (Kd.R_reads' HO_7.out).2.2; have hcut23 := cut_from (P := Try.prog) 23 32 .i64 Try.underlying23 hi023 2 hsz23 Ao24 y130.length co24 1 (by omega) q23; have hr23 := Kd.C_drop (m := (1 : Int).toNat) (c := co24) hC23 (by omega) hroom23; obtain ⟨A23, hA23⟩ : ∃ Az_, Az_ = (if co24 = (1 : Int).toNat then Ao24 else (Ao24 : Option Addr).map (·.add ((1 : Int).toNat * 2))) := ⟨_, rfl⟩; obtain ⟨c23, hc23⟩ : ∃ cz_, cz_ = co24 - (1 : Int).toNat := ⟨_, rfl⟩; have hy23 : y138.length = y130.length - (1 : Int).toNat := (by rw [Ny138.out, List.length_drop] <;> omega); rw [show (y130).drop (1 : Int).toNat = y138 from Ny138.out.symm] at hr23; replace hr23 : Kd.C k32 _ A23 y138.length y138 := (by rw [hA23]; exact hr23); rw [← hy23, ← hA23, ← hc23] at hcut23; have HR141 := Aside0.mk hr23; have HC141 := Aside0.mk (show y138.length ≤ c23 from by rw [hy23, hc23]; exact Nat.sub_le_sub_right hroom23 _); clear hr23 hC23 hroom23 hi023 hsz23 hc23; have KY23 := Aside0.mk hy23; have KA23 := Aside0.mk hA23; clear hy23 hA23; have KL23 := Aside0.mk (show 1 ≤ y130.length from by omega); replace q23 := eq_true q23) | ((with_reducible refine gate_builtin (b := .append) (xs := #[.tmp 55, .tmp 57]) rfl ?_); at_builtin; refine Kd.R_append_rows k32 w.heap.size rfl (.tmp 55) (.tmp 57) 23 32 (.agg #[(.int .i64 0), (.int .i64 0)]) 16 rfl Try.underlying23 info32 rfl (by decide) (by omega) v136 y135 y138 _ _ _ (fun k_ => some k_ ≠ (.slice Ao24 y130.length co24 : Value).ownBlock) (fun _ => False) rfl rfl ?aO ?aR (fun _ _ h => h) (fun _ h => h.elim) ?aF (Below.refl _ _) ?aS ?aL ?_; (case aR => exact qq53); (case aF => exact (fun k_ hk => Kd.fresh' (Kd.R_lt (qq11 HO_7.out)) k_ hk)); (case aO => exact (qq36 HO137.out)); (case aS => exact qq64); (case aL => have := LMc18.out; omega); intro v143 w25 ho hb hg hat; rw [← Ny142.out] at ho; have n0_ := Aside0.mk (Kd.R_after (ok := (fun _ => True)) (qq11 HO_7.out) hg hat); have n1_ := Aside0.mk (IsS81.grown qq8 hg (IsS81.own_ne HI0.out HO137.out (by decide))); have n2_ := Aside0.mk (below_weaken qq7 HL.out hb); have n3_ := Aside0.mk (KeepBut.trans qq4 (KeepBut.of_grown hg g) (Kd.R_base2 HO137.out)); have n4_ := Aside0.mk ((show Kd.C k32 w25 A23 y138.length y138 from by rw [Ny138.out, KA23.out]; exact Kd.C_drop (m := 1) (c := co24) ((Kd.R_reads' (Kd.R_after (ok := (fun _ => True)) (qq11 HO_7.out) hg hat)).2.2) KL23.out ((Kd.R_reads' (Kd.R_after (ok := (fun _ => True)) (qq11 HO_7.out) hg hat)).2.1))); have n5_ := Aside0.mk (ho); clear HO_7; clear HI0; clear HB; clear HK; clear HR141; clear HO137; have HO_7 := n0_; have HI0 := n1_; have HB := n2_; have HK := n3_; have HR141 := n4_; have HO144 := n5_; clear n0_ n1_ n2_ n3_ n4_ n5_; clear ho hb hg hat) | ((with_reducible refine gate_callee (f := 48) rfl ?_); refine goesL_ (some 60) rfl rfl Try.func48 (by kernel_rfl) rfl #[.pointer (some ⟨g, 0, none⟩), .int .i64 3] rfl qq2 ?_; (with_reducible refine (spec_l6Rd_pick.calls kj5 g s0_0 x1001_5 3 t145 t146 w0 _ ?side1 ?side2 A19.out).mono ?_); (case side1 => exact qq8); (case side2 => exact qq7); rintro e w26 ⟨rfl, hi, hb, hk⟩; refine ⟨_, rfl, ?_⟩; have n0_ := Aside0.mk (Kd.R_mono (Kd.R_keep (IsS81.apart (show IsS81 w0 _ g s0_0 x1001_5 from by repeat (first | (with_reducible first | exact HI0.out | apply IsS81.alloc | apply IsS81.drewN | apply IsS81.drew | apply IsS81.set_1) | exact HI0.out)) (qq11 HO_7.out) (by decide)) hk (fun _ h => h.2)) (fun _ h => h.1)); have n1_ := Aside0.mk (Kd.R_mono (Kd.R_keep (IsS81.apart (show IsS81 w0 _ g s0_0 x1001_5 from by repeat (first | (with_reducible first | exact HI0.out | apply IsS81.alloc | apply IsS81.drewN | apply IsS81.drew | apply IsS81.set_1) | exact HI0.out)) (qq11 HO144.out) (by decide)) hk (fun _ h => h.2)) (fun _ h => h.1)); have n2_ := Aside0.mk (KeepBut.trans qq4 hk (.inl rfl)); have n3_ := Aside0.mk (hb); have n4_ := Aside0.mk (hi); clear HO_7; clear HO144; clear HK; clear HB; clear HI0; have HO_7 := n0_; have HO144 := n1_; have HK := n2_; have HB := n3_; have HI0 := n4_; clear n0_ n1_ n2_ n3_ n4_; (try clear hb); (try clear hb2); (try clear hk); (try clear hi)))
              obtain ⟨WW, hWW, hR9⟩ : ∃ WW : World, WW = _ ∧ Kd.R k32 32 WW w.heap.size (fun _ => True) _ y142 := ⟨_, rfl, Kd.R_mono (ok' := fun _ => True) HO144.out (fun _ _ => trivial)⟩
              subst hWW
              obtain ⟨gq, cq, eq_, _, _, _⟩ := Kd.R_form hR9 (by omega)
              (first | subst eq_ | (injection eq_ with ea_ en_ ec_; (first | subst ea_ | (injection ea_ with ea_; subst ea_)); subst ec_; clear en_))
              have hQ9 := Kd.Q_of_R hR9
              have hc9 := (Kd.R_reads' hR9).2.1
              have hd9 := Kd.Q_drop (k := 1) hQ9 (by omega)
              obtain ⟨vc, hvc⟩ : ∃ vc, Value.slice (if cq = 1 then (some ⟨gq, 0, none⟩ : Option Addr) else (some ⟨gq, 0, none⟩ : Option Addr).map (·.add (1 * 2))) (y142.length - 1) (cq - 1) = vc := ⟨_, rfl⟩
              replace hd9 : Kd.Q k32 32 WW w.heap.size (fun _ => True) vc (y142.drop 1) := by rw [← hvc]; exact hd9
              obtain ⟨i9, hi9, _, hsz9, _⟩ := info_parts info32
              have hcut9 : ∀ W : World, (Instr.slice 23 (.slice (some ⟨gq, 0, none⟩) y142.length cq) (some (.int .i64 1)) none none).run Try.prog W = .ok vc W := fun W => by rw [← hvc]; exact cut_from (P := Try.prog) 23 32 .i64 Try.underlying23 hi9 2 hsz9 (some ⟨gq, 0, none⟩) y142.length cq 1 (by decide) (by omega) W
              obtain ⟨ad9, ead9, hx9, hy9⟩ := at_T32 (Kd.R_reads' hR9).2.2 0 (by decide) (by omega)
              cases ead9
              have hx9' : WW.cell? ⟨gq, 0, none⟩ = some (.int .i64 (rd_T32 y142 0).f0) := by simpa [Addr.add] using hx9
              have hy9' : WW.cell? ⟨gq, 1, none⟩ = some (.int .i64 (rd_T32 y142 0).f1) := by simpa [Addr.add] using hy9
              have hbs9 := HK.out.1
              have HQ9 := Aside0.mk hd9
              obtain ⟨p9, hp9⟩ : ∃ p, rd_T32 y142 0 = p := ⟨_, rfl⟩
              rw [hp9] at hx9' hy9'
              obtain ⟨y9, hy9_⟩ : ∃ y_, y142.drop 1 = y_ := ⟨_, rfl⟩
              have hyl9 : y9.length ≤ 100 := by rw [← hy9_, List.length_drop]; omega
              rw [hy9_] at HQ9
              clear hR9 hQ9 hd9 hvc hx9 hy9
              refine wpIn_wide (n := 0) |>.1 ?_
              have HF := Drawn.wide_plain Try.prog
              refine Drawn.act_name fun A0 hA0 => ?_
              obtain ⟨VS, hVS⟩ : ∃ VS : Value → Value → List (Option Tmp × Value), (fun u u' => [(some 62, .slice (some ⟨gq, 0, none⟩) y142.length cq), (some 63, vc), (some 64, .slice (some ⟨gq, 0, none⟩) y142.length cq), (some 65, .pointer (some ⟨gq, 0, none⟩)), (some 66, .agg #[.int .i64 p9.f0, .int .i64 p9.f1]), (some 67, .slice (some ⟨WW.heap.size, 0, none⟩) 1 1), (some 68, u), (some 2, u')]) = VS := ⟨_, rfl⟩
              have HN : ∀ u u', ((VS u u').filterMap (·.1)).Nodup := fun u u' => by rw [← hVS]; exact (show List.Nodup [(62 : Tmp), (63 : Tmp), (64 : Tmp), (65 : Tmp), (66 : Tmp), (67 : Tmp), (68 : Tmp), (2 : Tmp)] by decide)
              have E7 : ∀ (u u' : Value) (L : List Bool), (Drawn.fill (VS u u') L A0).tmps[7]?.getD undef = .slice (some ⟨gq, 0, none⟩) y142.length cq := fun u u' L => Drawn.fill_old _ _ _ qq66 (by rw [← hA0]; rfl)
              have E62 : ∀ (u u' : Value) (L : List Bool), L[0]? = some true → (Drawn.fill (VS u u') L A0).tmps[62]?.getD undef = .slice (some ⟨gq, 0, none⟩) y142.length cq := fun u u' L h => Drawn.fill_at (HN u u') (j := 0) (by rw [← hVS]; rfl) h (by rw [← hA0]; simp)
              have E63 : ∀ (u u' : Value) (L : List Bool), L[1]? = some true → (Drawn.fill (VS u u') L A0).tmps[63]?.getD undef = vc := fun u u' L h => Drawn.fill_at (HN u u') (j := 1) (by rw [← hVS]; rfl) h (by rw [← hA0]; simp)
              have E64 : ∀ (u u' : Value) (L : List Bool), L[2]? = some true → (Drawn.fill (VS u u') L A0).tmps[64]?.getD undef = .slice (some ⟨gq, 0, none⟩) y142.length cq := fun u u' L h => Drawn.fill_at (HN u u') (j := 2) (by rw [← hVS]; rfl) h (by rw [← hA0]; simp)
              have E65 : ∀ (u u' : Value) (L : List Bool), L[3]? = some true → (Drawn.fill (VS u u') L A0).tmps[65]?.getD undef = .pointer (some ⟨gq, 0, none⟩) := fun u u' L h => Drawn.fill_at (HN u u') (j := 3) (by rw [← hVS]; rfl) h (by rw [← hA0]; simp)
              have E66 : ∀ (u u' : Value) (L : List Bool), L[4]? = some true → (Drawn.fill (VS u u') L A0).tmps[66]?.getD undef = .agg #[.int .i64 p9.f0, .int .i64 p9.f1] := fun u u' L h => Drawn.fill_at (HN u u') (j := 4) (by rw [← hVS]; rfl) h (by rw [← hA0]; simp)
              have E67 : ∀ (u u' : Value) (L : List Bool), L[5]? = some true → (Drawn.fill (VS u u') L A0).tmps[67]?.getD undef = .slice (some ⟨WW.heap.size, 0, none⟩) 1 1 := fun u u' L h => Drawn.fill_at (HN u u') (j := 5) (by rw [← hVS]; rfl) h (by rw [← hA0]; simp)
              have E68 : ∀ (u u' : Value) (L : List Bool), L[6]? = some true → (Drawn.fill (VS u u') L A0).tmps[68]?.getD undef = u := fun u u' L h => Drawn.fill_at (HN u u') (j := 6) (by rw [← hVS]; rfl) h (by rw [← hA0]; simp)
              obtain ⟨V, hV⟩ : ∃ V : List Bool → List (Option Tmp × Value) → World → Prop, (fun L vs w' => ∃ u u', vs = VS u u' ∧ (L[7]? = some true → u' = u) ∧ (L[6]? = some true → Kd.Q k32 32 w' w.heap.size (fun _ => True) u (y9 ++ [p9]) ∧ Below w.heap.size WW w' ∧ WW.grownBy w' vc.ownBlock) ∧ (L[6]? = some false → L[5]? = some true → w' = WW.drew.alloc (.cells #[.int .i64 p9.f0, .int .i64 p9.f1] 32)) ∧ (L[5]? = some false → w' = WW.drew)) = V := ⟨_, rfl⟩
              have keep : ∀ (L : List Bool) (u u' : Value) (w' : World) (i : Nat), i < 5 → V L (VS u u') w' → V (L.set i true) (VS u u') w' := by
                intro L u u' w' i hi h
                rw [← hV] at h ⊢
                obtain ⟨u1, u2, h1, h2⟩ := h
                refine ⟨u1, u2, h1, ?_⟩
                rw [List.getElem?_set_ne (by omega), List.getElem?_set_ne (by omega), List.getElem?_set_ne (by omega)]
                exact h2
              refine Drawn.drawn_any (by kernel_rfl) (Drawn.early_spec (by kernel_rfl)) (show List.Nodup [(62 : Tmp), (63 : Tmp), (64 : Tmp), (65 : Tmp), (66 : Tmp), (67 : Tmp), (68 : Tmp), (2 : Tmp)] by decide) V (fun L vs w' h => by rw [← hV] at h; obtain ⟨u, u', rfl, _⟩ := h; rw [← hVS]; rfl) (VS undef undef) qq68 ?_ ?_
              · intro i o vs L w' ho hl hli hpre hcl hVL K hK
                have hVL' := hVL
                rw [← hV] at hVL'
                obtain ⟨u, u', rfl, hu7, hu6, hu56, hu5⟩ := hVL'
                have hii : i = 0 ∨ i = 1 ∨ i = 2 ∨ i = 3 ∨ i = 4 ∨ i = 5 ∨ i = 6 ∨ i = 7 := by have hq := (Array.getElem?_eq_some_iff.1 ho).1; simp at hq; omega
                have dn : ∀ j, j < 8 → L[j]? ≠ some true → L[j]? = some false := fun j hj h => by rw [List.getElem?_eq_getElem (by rw [hl]; exact hj)] at h ⊢; cases hc : L[j]'(by rw [hl]; exact hj) <;> simp_all
                rcases hii with rfl | rfl | rfl | rfl | rfl | rfl | rfl | rfl
                · obtain rfl := Option.some.inj ho
                  have e7 := E7 u u' L
                  refine Drawn.st_val HF rfl (by simp) rfl (v := .slice (some ⟨gq, 0, none⟩) y142.length cq) (w' := w') ?_ (hK _ w' qq78)
                  generalize Drawn.fill (VS u u') L A0 = A at e7 ⊢
                  simp [execOp, go_sem, e7]
                · obtain rfl := Option.some.inj ho
                  have e62 := E62 u u' L (hpre ⟨0, .data⟩ (by simp) rfl)
                  refine Drawn.st_val HF rfl (by simp) rfl (v := vc) (w' := w') ?_ (hK _ w' qq79)
                  generalize Drawn.fill (VS u u') L A0 = A at e62 ⊢
                  have s62 := (Drawn.eval_tmp A 62).trans e62
                  change (execOp A.eval { dst := some 63, op := Op.slice 23 (Operand.tmp 62) (some (Operand.const (Value.int IntKind.i64 1))) none none, type := 23, pos := "l92_draw.go:128", after := #[{ on := 0, ground := Ground.data }], guard := none }).run Try.prog w' = _
                  unfold execOp
                  simp only [Option.map_some, Option.map_none, s62, show A.eval (.const (.int .i64 1)) = .int .i64 1 from rfl, Sem.run_bind, Sem.run_pure]
                  rw [show (Instr.sliceAt 23 (.slice (some ⟨gq, 0, none⟩) y142.length cq) (some (.int .i64 1)) none none).run Try.prog w' = .ok vc w' from hcut9 w']
                  rfl
                · obtain rfl := Option.some.inj ho
                  have e7 := E7 u u' L
                  refine Drawn.st_val HF rfl (by simp) rfl (v := .slice (some ⟨gq, 0, none⟩) y142.length cq) (w' := w') ?_ (hK _ w' qq80)
                  generalize Drawn.fill (VS u u') L A0 = A at e7 ⊢
                  simp [execOp, go_sem, e7]
                · obtain rfl := Option.some.inj ho
                  have e64 := E64 u u' L (hpre ⟨2, .data⟩ (by simp) rfl)
                  refine Drawn.st_val HF rfl (by simp) rfl (v := .pointer (some ⟨gq, 0, none⟩)) (w' := w') ?_ (hK _ w' qq81)
                  have hpos : 0 < y142.length := by omega
                  generalize Drawn.fill (VS u u') L A0 = A at e64 ⊢
                  simp [execOp, go_sem, e64, hpos, Addr.add]
                · obtain rfl := Option.some.inj ho
                  have e65 := E65 u u' L (hpre ⟨3, .data⟩ (by simp) rfl)
                  have n5 := dn 5 (by decide) (fun h5 => by have h4 := hcl 5 _ rfl h5 ⟨4, .data⟩ (by simp) rfl; rw [hli] at h4; cases h4)
                  obtain rfl := hu5 n5
                  have c1 : WW.drew.cell? ⟨gq, 0, none⟩ = _ := hx9'
                  have c2 : WW.drew.cell? ⟨gq, 1, none⟩ = _ := hy9'
                  refine Drawn.st_val HF rfl (by simp) rfl (v := .agg #[.int .i64 p9.f0, .int .i64 p9.f1]) (w' := WW.drew) ?_ (hK _ WW.drew qq77)
                  generalize Drawn.fill (VS u u') L A0 = A at e65 ⊢
                  simp [execOp, go_sem, e65, c1, c2]
                · obtain rfl := Option.some.inj ho
                  have e66 := E66 u u' L (hpre ⟨4, .data⟩ (by simp) rfl)
                  have n6 := dn 6 (by decide) (fun h6 => by have h5 := hcl 6 _ rfl h6 ⟨5, .data⟩ (by simp) rfl; rw [hli] at h5; cases h5)
                  obtain rfl := hu5 hli
                  refine Drawn.st_val HF rfl (by simp) rfl (v := .slice (some ⟨WW.heap.size, 0, none⟩) 1 1) (w' := WW.drew.alloc (.cells #[.int .i64 p9.f0, .int .i64 p9.f1] 32)) ?_ (hK _ _ ?_)
                  · generalize Drawn.fill (VS u u') L A0 = A at e66 ⊢
                    simp [execOp, go_sem, e66]
                  · rw [← hV]
                    refine ⟨u, u', by rw [← hVS]; rfl, fun h => hu7 qq69, fun h => ?_, fun _ _ => rfl, fun h => ?_⟩
                    · rw [List.getElem?_set_ne (by decide), n6] at h; cases h
                    · rw [List.getElem?_set_self (by rw [hl]; decide)] at h; cases h
                · obtain rfl := Option.some.inj ho
                  have e63 := E63 u u' L (hpre ⟨1, .data⟩ (by simp) rfl)
                  have h5t := hpre ⟨5, .data⟩ (by simp) rfl
                  have e67 := E67 u u' L h5t
                  obtain rfl := hu56 hli h5t
                  obtain ⟨v1, w1, hr9, q1, q2, q3, _⟩ := Kd.Q_run (P := Try.prog) (W := WW.drew) k32 (w0 := WW) w.heap.size 23 23 32 (.agg #[(.int .i64 0), (.int .i64 0)]) 16 Try.underlying23 info32 rfl (by decide) (by omega) vc y9 p9 _ (fun _ => True) (fun _ => False) (k32_mkM _ _ _ p9) (fun _ h => h.elim) (fun _ _ => trivial) HQ9.out (below_drew1 (Below.refl _ _)) hbs9 (by omega)
                  refine Drawn.st_val HF rfl (by simp) rfl (v := v1) (w' := w1) ?_ (hK _ _ ?_)
                  · generalize Drawn.fill (VS u u') L A0 = A at e63 e67 ⊢
                    have s63 := (Drawn.eval_tmp A 63).trans e63
                    have s67 := (Drawn.eval_tmp A 67).trans e67
                    change (execOp A.eval { dst := some 68, op := Op.call { callee := Callee.builtin Builtin.append, args := #[Operand.tmp 63, Operand.tmp 67], argTypes := #[23, 23] }, type := 23, pos := "l92_draw.go:128", after := #[{ on := 1, ground := Ground.data }, { on := 5, ground := Ground.data }], guard := none }).run Try.prog _ = _
                    unfold execOp
                    simp only [resolve, invoke, builtin, Sem.run_bind, Sem.run_pure, Result.andThen_ok, List.map_toArray, List.map_cons, List.map_nil, s63, s67]
                    rw [show WW.drew.heap.size = WW.heap.size from rfl] at hr9
                    rw [show (#[.int .i64 p9.f0, .int .i64 p9.f1] : Array Value) = [.int .i64 p9.f0, .int .i64 p9.f1].toArray from rfl, hr9]
                    rfl
                  · rw [← hV]
                    have n7 := dn 7 (by decide) (fun h7 => by have h6 := hcl 7 _ rfl h7 ⟨6, .data⟩ (by simp) rfl; rw [hli] at h6; cases h6)
                    refine ⟨v1, u', by rw [← hVS]; rfl, fun h => ?_, fun _ => ⟨q1, q2, World.grownBy.trans (grown_of_below (below_drew1 (Below.refl WW.heap.size WW)) _) q3⟩, fun h => ?_, fun h => ?_⟩
                    · rw [List.getElem?_set_ne (by decide), n7] at h; cases h
                    · rw [List.getElem?_set_self (by rw [hl]; decide)] at h; cases h
                    · rw [List.getElem?_set_ne (by decide), h5t] at h; cases h
                · obtain rfl := Option.some.inj ho
                  have h6t := hpre ⟨6, .data⟩ (by simp) rfl
                  have e68 := E68 u u' L h6t
                  refine Drawn.st_val HF rfl (by simp) rfl (v := u) (w' := w') ?_ (hK _ w' ?_)
                  · generalize Drawn.fill (VS u u') L A0 = A at e68 ⊢
                    simp [execOp, go_sem, e68]
                  · rw [← hV]
                    refine ⟨u, u, by rw [← hVS]; rfl, fun _ => rfl, fun _ => hu6 h6t, fun h => ?_, fun h => hu5 qq69⟩
                    rw [List.getElem?_set_ne (by decide), h6t] at h; cases h
              · intro vs w' hVL
                rw [← hV] at hVL
                obtain ⟨u, u', rfl, hu7, hu6, _, _⟩ := hVL
                obtain rfl := hu7 rfl
                obtain ⟨q1, q2, q3⟩ := hu6 rfl
                rw [← hVS, ← hA0]
                simp only [List.size_toArray, List.length_cons, List.length_nil, Nat.reduceAdd, List.replicate, Drawn.fill, if_true, Act.put, List.setIfInBounds_toArray, List.set_cons_succ, List.set_cons_zero]
                have HIf := Aside0.mk (IsS81.grown HI0.out q3 (IsS81.own_neQ HI0.out HQ9.out (by decide)))
                have HBf := Aside0.mk (below_weaken HB.out HL.out q2)
                have HKf := Aside0.mk (KeepBut.trans HK.out (KeepBut.of_grown q3 g) (Kd.Q_base2 HQ9.out))
                have HQf := Aside0.mk q1
                clear q1 q2 q3 hu6 HN keep E7 E62 E63 E64 E65 E66 E67 E68 hVS hV hA0
                go_wp2
                go_ret
                exact ⟨_, rfl, by rw [← HR1.out, hy9_, hp9]; exact HQf.out, HIf.out, HBf.out, HKf.out⟩
            · rw [if_neg c20] at H
              have c20b0 : (t145 == 0) = false := beq_eq_false_iff_ne.mpr c20
              have c20b1 : (t145 != 0) = true := bne_iff_ne.mpr c20
              simp only [Option.some.injEq, Prod.mk.injEq] at H
              obtain ⟨rfl, rfl⟩ := H
              go_wp2_with (first | ((with_reducible refine gate_dst (N := 55) rfl ?_); refine Kd.R_lit k32 _ 32 ?hg (N := 55) ?hd (xs := ([(⟨(wrap64 (t122 - 2)), (wrap64 (t124 - 2))⟩ : S32), (⟨wrap64 ((wrap64 (t122 - 2)) + 1), (wrap64 (t124 - 2))⟩ : S32)] : List (S32))) (inner := [.int .i64 (wrap64 (t122 - 2)), .int .i64 (wrap64 (t124 - 2)), .int .i64 (wrap64 ((wrap64 (t122 - 2)) + 1)), .int .i64 (wrap64 (t124 - 2))]) (ok := fun _ => True) (okp := fun _ => True) ?hr ?hp (fun _ hk => hk) trivial (Below.refl _ _) (Nat.le_refl _) (by simp) ?_; (case hd => rfl); (case hg => rfl); (case hr => exact qq16); (case hp => exact qq40); intro v136 w27 ho28 hb hg_ hnew_; clear hg_ hnew_; (first | rw [← Ny135.out] at ho28 | (simp only [Int.reduceToNat] at ho28; rw [← Ny135.out] at ho28)); have n0_ := Aside0.mk (Kd.R_elder' (qq11 HO_7.out) (Kd.R_base ho28) hb); have n1_ := Aside0.mk (Kd.R_lower (Kd.R_new' ho28 (Kd.R_lt (qq11 HO_7.out))) (keep_size (w := w) (g := g) (row := none) qq4)); have n2_ := Aside0.mk (IsS81.below qq8 hb); have n3_ := Aside0.mk (KeepBut.trans qq4 (KeepBut.of_below hb g none) (.inl rfl)); have n4_ := Aside0.mk (below_step qq7 hb); clear HO_7; clear HI0; clear HK; clear HB; have HO_7 := n0_; have HO137 := n1_; have HI0 := n2_; have HK := n3_; have HB := n4_; clear n0_ n1_ n2_ n3_ n4_; clear hb ho28; obtain ⟨Ao30, co30, eo30⟩ := Kd.R_slice HO_7.out; subst eo30; have q29 : (1 : Int) ≤ ((y130.length : Int) : Int) := of_decide_eq_true qq18; obtain ⟨i029, hi029, _, hsz29, _⟩ := info_parts info32; have hroom29 : y130.length ≤ co30 := (Kd.R_reads' HO_7.out).2.1; have hC29 : Kd.C k32 _ Ao30 y130.length y130 := (Kd.R_reads' HO_7.out).2.2; have hcut29 := cut_from (P := Try.prog) 23 32 .i64 Try.underlying23 hi029 2 hsz29 Ao30 y130.length co30 1 (by omega) q29; have hr29 := Kd.C_drop (m := (1 : Int).toNat) (c := co30) hC29 (by omega) hroom29; obtain ⟨A29, hA29⟩ : ∃ Az_, Az_ = (if co30 = (1 : Int).toNat then Ao30 else (Ao30 : Option Addr).map (·.add ((1 : Int).toNat * 2))) := ⟨_, rfl⟩; obtain ⟨c29, hc29⟩ : ∃ cz_, cz_ = co30 - (1 : Int).toNat := ⟨_, rfl⟩; have hy29 : y138.length = y130.length - (1 : Int).toNat := (by rw [Ny138.out, List.length_drop] <;> omega); rw [show (y130).drop (1 : Int).toNat = y138 from Ny138.out.symm] at hr29; replace hr29 : Kd.C k32 _ A29 y138.length y138 := (by rw [hA29]; exact hr29); rw [← hy29, ← hA29, ← hc29] at hcut29; have HR141 := Aside0.mk hr29; have HC141 := Aside0.mk (show y138.length ≤ c29 from by rw [hy29, hc29]; exact Nat.sub_le_sub_right hroom29 _); clear hr29 hC29 hroom29 hi029 hsz29 hc29; have KY29 := Aside0.mk hy29; have KA29 := Aside0.mk hA29; clear hy29 hA29; have KL29 := Aside0.mk (show 1 ≤ y130.length from by omega); replace q29 := eq_true q29) | ((with_reducible refine gate_builtin (b := .append) (xs := #[.tmp 55, .tmp 57]) rfl ?_); at_builtin; refine Kd.R_append_rows k32 w.heap.size rfl (.tmp 55) (.tmp 57) 23 32 (.agg #[(.int .i64 0), (.int .i64 0)]) 16 rfl Try.underlying23 info32 rfl (by decide) (by omega) v136 y135 y138 _ _ _ (fun k_ => some k_ ≠ (.slice Ao30 y130.length co30 : Value).ownBlock) (fun _ => False) rfl rfl ?aO ?aR (fun _ _ h => h) (fun _ h => h.elim) ?aF (Below.refl _ _) ?aS ?aL ?_; (case aR => exact qq53); (case aF => exact (fun k_ hk => Kd.fresh' (Kd.R_lt (qq11 HO_7.out)) k_ hk)); (case aO => exact (qq36 HO137.out)); (case aS => exact qq64); (case aL => have := LMc18.out; omega); intro v143 w31 ho hb hg hat; rw [← Ny142.out] at ho; have n0_ := Aside0.mk (Kd.R_after (ok := (fun _ => True)) (qq11 HO_7.out) hg hat); have n1_ := Aside0.mk (IsS81.grown qq8 hg (IsS81.own_ne HI0.out HO137.out (by decide))); have n2_ := Aside0.mk (below_weaken qq7 HL.out hb); have n3_ := Aside0.mk (KeepBut.trans qq4 (KeepBut.of_grown hg g) (Kd.R_base2 HO137.out)); have n4_ := Aside0.mk ((show Kd.C k32 w31 A29 y138.length y138 from by rw [Ny138.out, KA29.out]; exact Kd.C_drop (m := 1) (c := co30) ((Kd.R_reads' (Kd.R_after (ok := (fun _ => True)) (qq11 HO_7.out) hg hat)).2.2) KL29.out ((Kd.R_reads' (Kd.R_after (ok := (fun _ => True)) (qq11 HO_7.out) hg hat)).2.1))); have n5_ := Aside0.mk (ho); clear HO_7; clear HI0; clear HB; clear HK; clear HR141; clear HO137; have HO_7 := n0_; have HI0 := n1_; have HB := n2_; have HK := n3_; have HR141 := n4_; have HO144 := n5_; clear n0_ n1_ n2_ n3_ n4_ n5_; clear ho hb hg hat) | ((with_reducible refine gate_callee (f := 48) rfl ?_); refine goesL_ (some 60) rfl rfl Try.func48 (by kernel_rfl) rfl #[.pointer (some ⟨g, 0, none⟩), .int .i64 3] rfl qq2 ?_; (with_reducible refine (spec_l6Rd_pick.calls kj5 g s0_0 x1001_5 3 t145 t146 w0 _ ?side1 ?side2 A19.out).mono ?_); (case side1 => exact qq8); (case side2 => exact qq7); rintro e w32 ⟨rfl, hi, hb, hk⟩; refine ⟨_, rfl, ?_⟩; have n0_ := Aside0.mk (Kd.R_mono (Kd.R_keep (IsS81.apart (show IsS81 w0 _ g s0_0 x1001_5 from by repeat (first | (with_reducible first | exact HI0.out | apply IsS81.alloc | apply IsS81.drewN | apply IsS81.drew | apply IsS81.set_1) | exact HI0.out)) (qq11 HO_7.out) (by decide)) hk (fun _ h => h.2)) (fun _ h => h.1)); have n1_ := Aside0.mk (Kd.R_mono (Kd.R_keep (IsS81.apart (show IsS81 w0 _ g s0_0 x1001_5 from by repeat (first | (with_reducible first | exact HI0.out | apply IsS81.alloc | apply IsS81.drewN | apply IsS81.drew | apply IsS81.set_1) | exact HI0.out)) (qq11 HO144.out) (by decide)) hk (fun _ h => h.2)) (fun _ h => h.1)); have n2_ := Aside0.mk (KeepBut.trans qq4 hk (.inl rfl)); have n3_ := Aside0.mk (hb); have n4_ := Aside0.mk (hi); clear HO_7; clear HO144; clear HK; clear HB; clear HI0; have HO_7 := n0_; have HO144 := n1_; have HK := n2_; have HB := n3_; have HI0 := n4_; clear n0_ n1_ n2_ n3_ n4_; (try clear hb); (try clear hb2); (try clear hk); (try clear hi)))
              go_ret
              exact ⟨_, qq12, Kd.Q_of_R (qq61 HO144.out), qq8, qq7, qq4⟩
          · rw [if_neg c18] at H
            exact absurd H (by simp)
        · rw [if_neg c17] at H
          exact absurd H (by simp)
      · replace c16 := Bool.eq_false_iff.mpr c16
        subst c16
        have H1 : ((spec_l6Rd_pick.f kj5 s0_0 x1001_5 3).bind fun bt147 => (if bt147.1 = 0 then (if 1 ≤ y130.length ∧ y130.length ≤ 100 then (some (y130.drop 1 ++ [rd_T32 y130 0], bt147.2)) else none) else (some (y130, bt147.2)))) = some (r1, r2) := by rw [if_neg (show ¬ (false = true) by decide)] at H; exact H
        clear H
        have H := H1
        clear H1
        replace H := Option.bind_eq_some_iff.mp H
        obtain ⟨⟨t147, t148⟩, A330, H⟩ := H
        replace H : (if t147 = 0 then (if 1 ≤ y130.length ∧ y130.length ≤ 100 then (some (y130.drop 1 ++ [rd_T32 y130 0], t148)) else none) else (some (y130, t148))) = some (r1, r2) := H
        have A33 := Aside0.mk A330
        clear A330
        by_cases c34 : t147 = 0
        · rw [if_pos c34] at H
          have c34b0 : (t147 == 0) = true := beq_iff_eq.mpr c34
          have c34b1 : (t147 != 0) = false := bne_eq_false_iff_eq.mpr c34
          clear c34
          by_cases hl9 : 1 ≤ y130.length ∧ y130.length ≤ 100
          case neg => rw [if_neg hl9] at H; exact absurd H (by simp)
          rw [if_pos hl9] at H
          simp only [Option.some.injEq, Prod.mk.injEq] at H
          obtain ⟨hr1, rfl⟩ := H; have HR1 := Aside0.mk hr1; clear hr1
          go_wp2_with (first | ((with_reducible refine gate_callee (f := 48) rfl ?_); refine goesL_ (some 60) rfl rfl Try.func48 (by kernel_rfl) rfl #[.pointer (some ⟨g, 0, none⟩), .int .i64 3] rfl qq2 ?_; (with_reducible refine (spec_l6Rd_pick.calls kj5 g s0_0 x1001_5 3 t147 t148 w0 _ ?side1 ?side2 A33.out).mono ?_); (case side1 => exact qq8); (case side2 => exact qq7); rintro e w35 ⟨rfl, hi, hb, hk⟩; refine ⟨_, rfl, ?_⟩; have n0_ := Aside0.mk (Kd.R_mono (Kd.R_keep (IsS81.apart (show IsS81 w0 _ g s0_0 x1001_5 from by repeat (first | (with_reducible first | exact HI0.out | apply IsS81.alloc | apply IsS81.drewN | apply IsS81.drew | apply IsS81.set_1) | exact HI0.out)) (qq11 HO_7.out) (by decide)) hk (fun _ h => h.2)) (fun _ h => h.1)); have n1_ := Aside0.mk (KeepBut.trans qq4 hk (.inl rfl)); have n2_ := Aside0.mk (hb); have n3_ := Aside0.mk (hi); clear HO_7; clear HK; clear HB; clear HI0; have HO_7 := n0_; have HK := n1_; have HB := n2_; have HI0 := n3_; clear n0_ n1_ n2_ n3_; (try clear hb); (try clear hb2); (try clear hk); (try clear hi)))
          obtain ⟨WW, hWW, hR9⟩ : ∃ WW : World, WW = _ ∧ Kd.R k32 32 WW w.heap.size (fun _ => True) _ y130 := ⟨_, rfl, Kd.R_mono (ok' := fun _ => True) HO_7.out (fun _ _ => trivial)⟩
          subst hWW
          obtain ⟨gq, cq, eq_, _, _, _⟩ := Kd.R_form hR9 (by omega)
          (first | subst eq_ | (injection eq_ with ea_ en_ ec_; (first | subst ea_ | (injection ea_ with ea_; subst ea_)); subst ec_; clear en_))
          have hQ9 := Kd.Q_of_R hR9
          have hc9 := (Kd.R_reads' hR9).2.1
          have hd9 := Kd.Q_drop (k := 1) hQ9 (by omega)
          obtain ⟨vc, hvc⟩ : ∃ vc, Value.slice (if cq = 1 then (some ⟨gq, 0, none⟩ : Option Addr) else (some ⟨gq, 0, none⟩ : Option Addr).map (·.add (1 * 2))) (y130.length - 1) (cq - 1) = vc := ⟨_, rfl⟩
          replace hd9 : Kd.Q k32 32 WW w.heap.size (fun _ => True) vc (y130.drop 1) := by rw [← hvc]; exact hd9
          obtain ⟨i9, hi9, _, hsz9, _⟩ := info_parts info32
          have hcut9 : ∀ W : World, (Instr.slice 23 (.slice (some ⟨gq, 0, none⟩) y130.length cq) (some (.int .i64 1)) none none).run Try.prog W = .ok vc W := fun W => by rw [← hvc]; exact cut_from (P := Try.prog) 23 32 .i64 Try.underlying23 hi9 2 hsz9 (some ⟨gq, 0, none⟩) y130.length cq 1 (by decide) (by omega) W
          obtain ⟨ad9, ead9, hx9, hy9⟩ := at_T32 (Kd.R_reads' hR9).2.2 0 (by decide) (by omega)
          cases ead9
          have hx9' : WW.cell? ⟨gq, 0, none⟩ = some (.int .i64 (rd_T32 y130 0).f0) := by simpa [Addr.add] using hx9
          have hy9' : WW.cell? ⟨gq, 1, none⟩ = some (.int .i64 (rd_T32 y130 0).f1) := by simpa [Addr.add] using hy9
          have hbs9 := HK.out.1
          have HQ9 := Aside0.mk hd9
          obtain ⟨p9, hp9⟩ : ∃ p, rd_T32 y130 0 = p := ⟨_, rfl⟩
          rw [hp9] at hx9' hy9'
          obtain ⟨y9, hy9_⟩ : ∃ y_, y130.drop 1 = y_ := ⟨_, rfl⟩
          have hyl9 : y9.length ≤ 100 := by rw [← hy9_, List.length_drop]; omega
          rw [hy9_] at HQ9
          clear hR9 hQ9 hd9 hvc hx9 hy9
          refine wpIn_wide (n := 0) |>.1 ?_
          have HF := Drawn.wide_plain Try.prog
          refine Drawn.act_name fun A0 hA0 => ?_
          obtain ⟨VS, hVS⟩ : ∃ VS : Value → Value → List (Option Tmp × Value), (fun u u' => [(some 62, .slice (some ⟨gq, 0, none⟩) y130.length cq), (some 63, vc), (some 64, .slice (some ⟨gq, 0, none⟩) y130.length cq), (some 65, .pointer (some ⟨gq, 0, none⟩)), (some 66, .agg #[.int .i64 p9.f0, .int .i64 p9.f1]), (some 67, .slice (some ⟨WW.heap.size, 0, none⟩) 1 1), (some 68, u), (some 2, u')]) = VS := ⟨_, rfl⟩
          have HN : ∀ u u', ((VS u u').filterMap (·.1)).Nodup := fun u u' => by rw [← hVS]; exact (show List.Nodup [(62 : Tmp), (63 : Tmp), (64 : Tmp), (65 : Tmp), (66 : Tmp), (67 : Tmp), (68 : Tmp), (2 : Tmp)] by decide)
          have E7 : ∀ (u u' : Value) (L : List Bool), (Drawn.fill (VS u u') L A0).tmps[7]?.getD undef = .slice (some ⟨gq, 0, none⟩) y130.length cq := fun u u' L => Drawn.fill_old _ _ _ qq66 (by rw [← hA0]; rfl)
          have E62 : ∀ (u u' : Value) (L : List Bool), L[0]? = some true → (Drawn.fill (VS u u') L A0).tmps[62]?.getD undef = .slice (some ⟨gq, 0, none⟩) y130.length cq := fun u u' L h => Drawn.fill_at (HN u u') (j := 0) (by rw [← hVS]; rfl) h (by rw [← hA0]; simp)
          have E63 : ∀ (u u' : Value) (L : List Bool), L[1]? = some true → (Drawn.fill (VS u u') L A0).tmps[63]?.getD undef = vc := fun u u' L h => Drawn.fill_at (HN u u') (j := 1) (by rw [← hVS]; rfl) h (by rw [← hA0]; simp)
          have E64 : ∀ (u u' : Value) (L : List Bool), L[2]? = some true → (Drawn.fill (VS u u') L A0).tmps[64]?.getD undef = .slice (some ⟨gq, 0, none⟩) y130.length cq := fun u u' L h => Drawn.fill_at (HN u u') (j := 2) (by rw [← hVS]; rfl) h (by rw [← hA0]; simp)
          have E65 : ∀ (u u' : Value) (L : List Bool), L[3]? = some true → (Drawn.fill (VS u u') L A0).tmps[65]?.getD undef = .pointer (some ⟨gq, 0, none⟩) := fun u u' L h => Drawn.fill_at (HN u u') (j := 3) (by rw [← hVS]; rfl) h (by rw [← hA0]; simp)
          have E66 : ∀ (u u' : Value) (L : List Bool), L[4]? = some true → (Drawn.fill (VS u u') L A0).tmps[66]?.getD undef = .agg #[.int .i64 p9.f0, .int .i64 p9.f1] := fun u u' L h => Drawn.fill_at (HN u u') (j := 4) (by rw [← hVS]; rfl) h (by rw [← hA0]; simp)
          have E67 : ∀ (u u' : Value) (L : List Bool), L[5]? = some true → (Drawn.fill (VS u u') L A0).tmps[67]?.getD undef = .slice (some ⟨WW.heap.size, 0, none⟩) 1 1 := fun u u' L h => Drawn.fill_at (HN u u') (j := 5) (by rw [← hVS]; rfl) h (by rw [← hA0]; simp)
          have E68 : ∀ (u u' : Value) (L : List Bool), L[6]? = some true → (Drawn.fill (VS u u') L A0).tmps[68]?.getD undef = u := fun u u' L h => Drawn.fill_at (HN u u') (j := 6) (by rw [← hVS]; rfl) h (by rw [← hA0]; simp)
          obtain ⟨V, hV⟩ : ∃ V : List Bool → List (Option Tmp × Value) → World → Prop, (fun L vs w' => ∃ u u', vs = VS u u' ∧ (L[7]? = some true → u' = u) ∧ (L[6]? = some true → Kd.Q k32 32 w' w.heap.size (fun _ => True) u (y9 ++ [p9]) ∧ Below w.heap.size WW w' ∧ WW.grownBy w' vc.ownBlock) ∧ (L[6]? = some false → L[5]? = some true → w' = WW.drew.alloc (.cells #[.int .i64 p9.f0, .int .i64 p9.f1] 32)) ∧ (L[5]? = some false → w' = WW.drew)) = V := ⟨_, rfl⟩
          have keep : ∀ (L : List Bool) (u u' : Value) (w' : World) (i : Nat), i < 5 → V L (VS u u') w' → V (L.set i true) (VS u u') w' := by
            intro L u u' w' i hi h
            rw [← hV] at h ⊢
            obtain ⟨u1, u2, h1, h2⟩ := h
            refine ⟨u1, u2, h1, ?_⟩
            rw [List.getElem?_set_ne (by omega), List.getElem?_set_ne (by omega), List.getElem?_set_ne (by omega)]
            exact h2
          refine Drawn.drawn_any (by kernel_rfl) (Drawn.early_spec (by kernel_rfl)) (show List.Nodup [(62 : Tmp), (63 : Tmp), (64 : Tmp), (65 : Tmp), (66 : Tmp), (67 : Tmp), (68 : Tmp), (2 : Tmp)] by decide) V (fun L vs w' h => by rw [← hV] at h; obtain ⟨u, u', rfl, _⟩ := h; rw [← hVS]; rfl) (VS undef undef) qq68 ?_ ?_
          · intro i o vs L w' ho hl hli hpre hcl hVL K hK
            have hVL' := hVL
            rw [← hV] at hVL'
            obtain ⟨u, u', rfl, hu7, hu6, hu56, hu5⟩ := hVL'
            have hii : i = 0 ∨ i = 1 ∨ i = 2 ∨ i = 3 ∨ i = 4 ∨ i = 5 ∨ i = 6 ∨ i = 7 := by have hq := (Array.getElem?_eq_some_iff.1 ho).1; simp at hq; omega
            have dn : ∀ j, j < 8 → L[j]? ≠ some true → L[j]? = some false := fun j hj h => by rw [List.getElem?_eq_getElem (by rw [hl]; exact hj)] at h ⊢; cases hc : L[j]'(by rw [hl]; exact hj) <;> simp_all
            rcases hii with rfl | rfl | rfl | rfl | rfl | rfl | rfl | rfl
            · obtain rfl := Option.some.inj ho
              have e7 := E7 u u' L
              refine Drawn.st_val HF rfl (by simp) rfl (v := .slice (some ⟨gq, 0, none⟩) y130.length cq) (w' := w') ?_ (hK _ w' qq78)
              generalize Drawn.fill (VS u u') L A0 = A at e7 ⊢
              simp [execOp, go_sem, e7]
            · obtain rfl := Option.some.inj ho
              have e62 := E62 u u' L (hpre ⟨0, .data⟩ (by simp) rfl)
              refine Drawn.st_val HF rfl (by simp) rfl (v := vc) (w' := w') ?_ (hK _ w' qq79)
              generalize Drawn.fill (VS u u') L A0 = A at e62 ⊢
              have s62 := (Drawn.eval_tmp A 62).trans e62
              change (execOp A.eval { dst := some 63, op := Op.slice 23 (Operand.tmp 62) (some (Operand.const (Value.int IntKind.i64 1))) none none, type := 23, pos := "l92_draw.go:128", after := #[{ on := 0, ground := Ground.data }], guard := none }).run Try.prog w' = _
              unfold execOp
              simp only [Option.map_some, Option.map_none, s62, show A.eval (.const (.int .i64 1)) = .int .i64 1 from rfl, Sem.run_bind, Sem.run_pure]
              rw [show (Instr.sliceAt 23 (.slice (some ⟨gq, 0, none⟩) y130.length cq) (some (.int .i64 1)) none none).run Try.prog w' = .ok vc w' from hcut9 w']
              rfl
            · obtain rfl := Option.some.inj ho
              have e7 := E7 u u' L
              refine Drawn.st_val HF rfl (by simp) rfl (v := .slice (some ⟨gq, 0, none⟩) y130.length cq) (w' := w') ?_ (hK _ w' qq80)
              generalize Drawn.fill (VS u u') L A0 = A at e7 ⊢
              simp [execOp, go_sem, e7]
            · obtain rfl := Option.some.inj ho
              have e64 := E64 u u' L (hpre ⟨2, .data⟩ (by simp) rfl)
              refine Drawn.st_val HF rfl (by simp) rfl (v := .pointer (some ⟨gq, 0, none⟩)) (w' := w') ?_ (hK _ w' qq81)
              have hpos : 0 < y130.length := by omega
              generalize Drawn.fill (VS u u') L A0 = A at e64 ⊢
              simp [execOp, go_sem, e64, hpos, Addr.add]
            · obtain rfl := Option.some.inj ho
              have e65 := E65 u u' L (hpre ⟨3, .data⟩ (by simp) rfl)
              have n5 := dn 5 (by decide) (fun h5 => by have h4 := hcl 5 _ rfl h5 ⟨4, .data⟩ (by simp) rfl; rw [hli] at h4; cases h4)
              obtain rfl := hu5 n5
              have c1 : WW.drew.cell? ⟨gq, 0, none⟩ = _ := hx9'
              have c2 : WW.drew.cell? ⟨gq, 1, none⟩ = _ := hy9'
              refine Drawn.st_val HF rfl (by simp) rfl (v := .agg #[.int .i64 p9.f0, .int .i64 p9.f1]) (w' := WW.drew) ?_ (hK _ WW.drew qq77)
              generalize Drawn.fill (VS u u') L A0 = A at e65 ⊢
              simp [execOp, go_sem, e65, c1, c2]
            · obtain rfl := Option.some.inj ho
              have e66 := E66 u u' L (hpre ⟨4, .data⟩ (by simp) rfl)
              have n6 := dn 6 (by decide) (fun h6 => by have h5 := hcl 6 _ rfl h6 ⟨5, .data⟩ (by simp) rfl; rw [hli] at h5; cases h5)
              obtain rfl := hu5 hli
              refine Drawn.st_val HF rfl (by simp) rfl (v := .slice (some ⟨WW.heap.size, 0, none⟩) 1 1) (w' := WW.drew.alloc (.cells #[.int .i64 p9.f0, .int .i64 p9.f1] 32)) ?_ (hK _ _ ?_)
              · generalize Drawn.fill (VS u u') L A0 = A at e66 ⊢
                simp [execOp, go_sem, e66]
              · rw [← hV]
                refine ⟨u, u', by rw [← hVS]; rfl, fun h => hu7 qq69, fun h => ?_, fun _ _ => rfl, fun h => ?_⟩
                · rw [List.getElem?_set_ne (by decide), n6] at h; cases h
                · rw [List.getElem?_set_self (by rw [hl]; decide)] at h; cases h
            · obtain rfl := Option.some.inj ho
              have e63 := E63 u u' L (hpre ⟨1, .data⟩ (by simp) rfl)
              have h5t := hpre ⟨5, .data⟩ (by simp) rfl
              have e67 := E67 u u' L h5t
              obtain rfl := hu56 hli h5t
              obtain ⟨v1, w1, hr9, q1, q2, q3, _⟩ := Kd.Q_run (P := Try.prog) (W := WW.drew) k32 (w0 := WW) w.heap.size 23 23 32 (.agg #[(.int .i64 0), (.int .i64 0)]) 16 Try.underlying23 info32 rfl (by decide) (by omega) vc y9 p9 _ (fun _ => True) (fun _ => False) (k32_mkM _ _ _ p9) (fun _ h => h.elim) (fun _ _ => trivial) HQ9.out (below_drew1 (Below.refl _ _)) hbs9 (by omega)
              refine Drawn.st_val HF rfl (by simp) rfl (v := v1) (w' := w1) ?_ (hK _ _ ?_)
              · generalize Drawn.fill (VS u u') L A0 = A at e63 e67 ⊢
                have s63 := (Drawn.eval_tmp A 63).trans e63
                have s67 := (Drawn.eval_tmp A 67).trans e67
                change (execOp A.eval { dst := some 68, op := Op.call { callee := Callee.builtin Builtin.append, args := #[Operand.tmp 63, Operand.tmp 67], argTypes := #[23, 23] }, type := 23, pos := "l92_draw.go:128", after := #[{ on := 1, ground := Ground.data }, { on := 5, ground := Ground.data }], guard := none }).run Try.prog _ = _
                unfold execOp
                simp only [resolve, invoke, builtin, Sem.run_bind, Sem.run_pure, Result.andThen_ok, List.map_toArray, List.map_cons, List.map_nil, s63, s67]
                rw [show WW.drew.heap.size = WW.heap.size from rfl] at hr9
                rw [show (#[.int .i64 p9.f0, .int .i64 p9.f1] : Array Value) = [.int .i64 p9.f0, .int .i64 p9.f1].toArray from rfl, hr9]
                rfl
              · rw [← hV]
                have n7 := dn 7 (by decide) (fun h7 => by have h6 := hcl 7 _ rfl h7 ⟨6, .data⟩ (by simp) rfl; rw [hli] at h6; cases h6)
                refine ⟨v1, u', by rw [← hVS]; rfl, fun h => ?_, fun _ => ⟨q1, q2, World.grownBy.trans (grown_of_below (below_drew1 (Below.refl WW.heap.size WW)) _) q3⟩, fun h => ?_, fun h => ?_⟩
                · rw [List.getElem?_set_ne (by decide), n7] at h; cases h
                · rw [List.getElem?_set_self (by rw [hl]; decide)] at h; cases h
                · rw [List.getElem?_set_ne (by decide), h5t] at h; cases h
            · obtain rfl := Option.some.inj ho
              have h6t := hpre ⟨6, .data⟩ (by simp) rfl
              have e68 := E68 u u' L h6t
              refine Drawn.st_val HF rfl (by simp) rfl (v := u) (w' := w') ?_ (hK _ w' ?_)
              · generalize Drawn.fill (VS u u') L A0 = A at e68 ⊢
                simp [execOp, go_sem, e68]
              · rw [← hV]
                refine ⟨u, u, by rw [← hVS]; rfl, fun _ => rfl, fun _ => hu6 h6t, fun h => ?_, fun h => hu5 qq69⟩
                rw [List.getElem?_set_ne (by decide), h6t] at h; cases h
          · intro vs w' hVL
            rw [← hV] at hVL
            obtain ⟨u, u', rfl, hu7, hu6, _, _⟩ := hVL
            obtain rfl := hu7 rfl
            obtain ⟨q1, q2, q3⟩ := hu6 rfl
            rw [← hVS, ← hA0]
            simp only [List.size_toArray, List.length_cons, List.length_nil, Nat.reduceAdd, List.replicate, Drawn.fill, if_true, Act.put, List.setIfInBounds_toArray, List.set_cons_succ, List.set_cons_zero]
            have HIf := Aside0.mk (IsS81.grown HI0.out q3 (IsS81.own_neQ HI0.out HQ9.out (by decide)))
            have HBf := Aside0.mk (below_weaken HB.out HL.out q2)
            have HKf := Aside0.mk (KeepBut.trans HK.out (KeepBut.of_grown q3 g) (Kd.Q_base2 HQ9.out))
            have HQf := Aside0.mk q1
            clear q1 q2 q3 hu6 HN keep E7 E62 E63 E64 E65 E66 E67 E68 hVS hV hA0
            go_wp2
            go_ret
            exact ⟨_, rfl, by rw [← HR1.out, hy9_, hp9]; exact HQf.out, HIf.out, HBf.out, HKf.out⟩
        · rw [if_neg c34] at H
          have c34b0 : (t147 == 0) = false := beq_eq_false_iff_ne.mpr c34
          have c34b1 : (t147 != 0) = true := bne_iff_ne.mpr c34
          simp only [Option.some.injEq, Prod.mk.injEq] at H
          obtain ⟨rfl, rfl⟩ := H
          go_wp2_with (first | ((with_reducible refine gate_callee (f := 48) rfl ?_); refine goesL_ (some 60) rfl rfl Try.func48 (by kernel_rfl) rfl #[.pointer (some ⟨g, 0, none⟩), .int .i64 3] rfl qq2 ?_; (with_reducible refine (spec_l6Rd_pick.calls kj5 g s0_0 x1001_5 3 t147 t148 w0 _ ?side1 ?side2 A33.out).mono ?_); (case side1 => exact qq8); (case side2 => exact qq7); rintro e w36 ⟨rfl, hi, hb, hk⟩; refine ⟨_, rfl, ?_⟩; have n0_ := Aside0.mk (Kd.R_mono (Kd.R_keep (IsS81.apart (show IsS81 w0 _ g s0_0 x1001_5 from by repeat (first | (with_reducible first | exact HI0.out | apply IsS81.alloc | apply IsS81.drewN | apply IsS81.drew | apply IsS81.set_1) | exact HI0.out)) (qq11 HO_7.out) (by decide)) hk (fun _ h => h.2)) (fun _ h => h.1)); have n1_ := Aside0.mk (KeepBut.trans qq4 hk (.inl rfl)); have n2_ := Aside0.mk (hb); have n3_ := Aside0.mk (hi); clear HO_7; clear HK; clear HB; clear HI0; have HO_7 := n0_; have HK := n1_; have HB := n2_; have HI0 := n3_; clear n0_ n1_ n2_ n3_; (try clear hb); (try clear hb2); (try clear hk); (try clear hi)))
          go_ret
          exact ⟨_, qq12, Kd.Q_of_R (qq11 HO_7.out), qq8, qq7, qq4⟩

end Go.Proofs.Ytgdhgncdpmalcaa.Q
namespace Go.Proofs.Ytgdhgncdpmalcaa.Q
open Go.RowKit Go.Proofs.YtgdhgncdpmalcaaW.PrintWords Go.Proofs.YtgdhgncdpmalcaaW.PrintLast Go.Proofs.YtgdhgncdpmalcaaW.PrintMore
attribute [local go_sem] max2_int min2_int max_two min_two max_three min_three max_four min_four
set_option linter.unusedVariables false
set_option linter.unusedSimpArgs false

/-! ### spec_l92Star: function 72 -/
def spec_l92Star.l0 : Nat → List (S32) → List (S32) → Int → List Int → Int → Option ((List (S32)) × Int)
  | 0, _, _, _, _, _ => none
  | k + 1, x3, x4, x5, x1000, x1001 => if x5 < (x3.length : Int) then (if (Int.tmod x5 4) = 0 then ((spec_l6Rd_pick.f k x1000 x1001 3).bind fun bt128 => (if 0 ≤ x5 then (if x4.length < 8796093022208 then (spec_l92Star.l0 k x3 (x4 ++ [(⟨wrap64 ((wrap64 (1 + bt128.1)) * ((rd_T32 x3 x5).f0)), wrap64 ((wrap64 (1 + bt128.1)) * ((rd_T32 x3 x5).f1))⟩ : S32)]) (wrap64 (x5 + 1)) x1000 bt128.2) else (none)) else (none))) else ((spec_l6Rd_pick.f k x1000 x1001 3).bind fun bt135 => (if bt135.1 = 0 then ((spec_l6Rd_pick.f k x1000 bt135.2 3).bind fun bt137 => (if 0 ≤ x5 then (if x4.length < 8796093022208 then (spec_l92Star.l0 k x3 (x4 ++ [(⟨wrap64 ((wrap64 (1 + bt137.1)) * ((rd_T32 x3 x5).f0)), wrap64 ((wrap64 (1 + bt137.1)) * ((rd_T32 x3 x5).f1))⟩ : S32)]) (wrap64 (x5 + 1)) x1000 bt137.2) else (none)) else (none))) else (spec_l92Star.l0 k x3 x4 (wrap64 (x5 + 1)) x1000 bt135.2)))) else (some (x4, x1001))
def spec_l92Star.f (k : Nat) (s0_0 : List Int) (s0_1 : Int) : Option ((List (S32)) × Int) := spec_l92Star.l0 k (([(⟨2, 0⟩ : S32), (⟨2, 1⟩ : S32), (⟨1, 2⟩ : S32), (⟨0, 2⟩ : S32), (⟨(-1), 2⟩ : S32), (⟨(-2), 1⟩ : S32), (⟨(-2), 0⟩ : S32), (⟨(-2), (-1)⟩ : S32), (⟨(-1), (-2)⟩ : S32), (⟨0, (-2)⟩ : S32), (⟨1, (-2)⟩ : S32), (⟨2, (-1)⟩ : S32)] : List (S32))) (([] : List (S32))) 0 s0_0 s0_1
def spec_l92Star.T8 : Bool × List (List Nat × List Nat) := (true, [([], []), ([], []), ([], []), ([], []), ([2, 3], [2, 3]), ([4], [4]), ([5], [5]), ([1, 6], [1, 6]), ([], []), ([], []), ([], []), ([9, 10], [9, 10]), ([11], [11]), ([12], [12]), ([8, 13], [8, 13]), ([7, 14], [7, 14]), ([15], [15]), ([0, 16], [0, 16]), ([17, 17, 0, 1, 2, 3, 4, 5, 6, 7, 8, 9, 10, 11, 12, 13, 14, 15, 16, 17], [0, 17])])
def spec_l92Star.B8 : List Nat := [0, 0, 0, 0, 12, 28, 60, 126, 0, 0, 0, 1536, 3584, 7680, 16128, 32766, 65534, 131071, 262143]
theorem spec_l92Star.tab8 : rtab .any (opsOf Try.f72 8) = spec_l92Star.T8 := by kernel_rfl
theorem spec_l92Star.bits8 : waitsOk spec_l92Star.T8.2 spec_l92Star.B8 = true := by kernel_rfl
set_option maxHeartbeats 8000000 in
set_option maxRecDepth 100000 in
theorem spec_l92Star.calls (k : Nat) (g : Nat) (s0_0 : List Int) (s0_1 : Int) (r1 : List (S32)) (r2 : Int) (w0 w : World) (hI : IsS81 w0 w g s0_0 s0_1) (hB : Below w0.heap.size w0 w) (h : spec_l92Star.f k s0_0 s0_1 = some (r1, r2)) :
    Calls Try.prog 72 #[.pointer (some ⟨g, 0, none⟩)] w fun e w' => ∃ v0_ : Value, e = .returned (v0_) ∧ Kd.R k32 32 w' w.heap.size (fun _ => True) v0_ r1 ∧ IsS81 w0 w' g s0_0 r2 ∧ Below w0.heap.size w0 w' ∧ KeepBut w w' g none := by
  have hu32 := Try.underlying32
  have HI0 := Aside0.mk hI
  have HK := Aside0.mk (KeepBut.refl w g none)
  have HL := Aside0.mk hB.size
  clear hI
  have HW0 := Aside0.mk hB.size
  have HB := Aside0.mk hB
  clear hB
  have H : (spec_l92Star.l0 k (([(⟨2, 0⟩ : S32), (⟨2, 1⟩ : S32), (⟨1, 2⟩ : S32), (⟨0, 2⟩ : S32), (⟨(-1), 2⟩ : S32), (⟨(-2), 1⟩ : S32), (⟨(-2), 0⟩ : S32), (⟨(-2), (-1)⟩ : S32), (⟨(-1), (-2)⟩ : S32), (⟨0, (-2)⟩ : S32), (⟨1, (-2)⟩ : S32), (⟨2, (-1)⟩ : S32)] : List (S32))) (([] : List (S32))) 0 s0_0 s0_1) = some (r1, r2) := h
  clear h
  obtain ⟨y122, hy122⟩ : ∃ y_ : List (S32), y_ = (([(⟨2, 0⟩ : S32), (⟨2, 1⟩ : S32), (⟨1, 2⟩ : S32), (⟨0, 2⟩ : S32), (⟨(-1), 2⟩ : S32), (⟨(-2), 1⟩ : S32), (⟨(-2), 0⟩ : S32), (⟨(-2), (-1)⟩ : S32), (⟨(-1), (-2)⟩ : S32), (⟨0, (-2)⟩ : S32), (⟨1, (-2)⟩ : S32), (⟨2, (-1)⟩ : S32)] : List (S32))) := ⟨_, rfl⟩
  replace H : (spec_l92Star.l0 k y122 (([] : List (S32))) 0 s0_0 s0_1) = some (r1, r2) := by first | (rw [hy122]; with_reducible exact H) | (have H2_ := (Option.bind_some _ _).symm.trans H; rw [hy122]; with_reducible exact H2_) | (have H2_ := (Option.bind_some _ _).symm.trans H; with_reducible exact H2_) | with_reducible exact H | (rw [hy122]; exact H) | exact H
  have Ny122 := Aside0.mk hy122
  clear hy122
  obtain ⟨y125, hy125⟩ : ∃ y_ : List (S32), y_ = (([] : List (S32))) := ⟨_, rfl⟩
  replace H : (spec_l92Star.l0 k y122 y125 0 s0_0 s0_1) = some (r1, r2) := by first | (rw [hy125]; with_reducible exact H) | (have H2_ := (Option.bind_some _ _).symm.trans H; rw [hy125]; with_reducible exact H2_) | (have H2_ := (Option.bind_some _ _).symm.trans H; with_reducible exact H2_) | with_reducible exact H | (rw [hy125]; exact H) | exact H
  have Ny125 := Aside0.mk hy125
  clear hy125
  have H' := Aside0.mk H
  clear H
  go_enter Try.func72, Try.ntmps72
  go_wp2_with (first | ((with_reducible refine gate_dst (N := 19) rfl ?_); refine Kd.R_lit k32 _ 32 ?hg (N := 19) ?hd (xs := ([(⟨2, 0⟩ : S32), (⟨2, 1⟩ : S32), (⟨1, 2⟩ : S32), (⟨0, 2⟩ : S32), (⟨(-1), 2⟩ : S32), (⟨(-2), 1⟩ : S32), (⟨(-2), 0⟩ : S32), (⟨(-2), (-1)⟩ : S32), (⟨(-1), (-2)⟩ : S32), (⟨0, (-2)⟩ : S32), (⟨1, (-2)⟩ : S32), (⟨2, (-1)⟩ : S32)] : List (S32))) (inner := [.int .i64 2, .int .i64 0, .int .i64 2, .int .i64 1, .int .i64 1, .int .i64 2, .int .i64 0, .int .i64 2, .int .i64 (-1), .int .i64 2, .int .i64 (-2), .int .i64 1, .int .i64 (-2), .int .i64 0, .int .i64 (-2), .int .i64 (-1), .int .i64 (-1), .int .i64 (-2), .int .i64 0, .int .i64 (-2), .int .i64 1, .int .i64 (-2), .int .i64 2, .int .i64 (-1)]) (ok := fun _ => True) (okp := fun _ => True) ?hr ?hp (fun _ hk => hk) trivial (Below.refl _ _) (Nat.le_refl _) (by simp) ?_; (case hd => rfl); (case hg => rfl); (case hr => exact qq16); (case hp => exact (Reps.c2 (show Kd.M k32 _ _ _ (⟨2, 0⟩ : S32) [.int .i64 2, .int .i64 0] from (k32_mkM _ _ _ (⟨2, 0⟩ : S32) )) (Reps.c2 (show Kd.M k32 _ _ _ (⟨2, 1⟩ : S32) [.int .i64 2, .int .i64 1] from (k32_mkM _ _ _ (⟨2, 1⟩ : S32) )) (Reps.c2 (show Kd.M k32 _ _ _ (⟨1, 2⟩ : S32) [.int .i64 1, .int .i64 2] from (k32_mkM _ _ _ (⟨1, 2⟩ : S32) )) (Reps.c2 (show Kd.M k32 _ _ _ (⟨0, 2⟩ : S32) [.int .i64 0, .int .i64 2] from (k32_mkM _ _ _ (⟨0, 2⟩ : S32) )) (Reps.c2 (show Kd.M k32 _ _ _ (⟨(-1), 2⟩ : S32) [.int .i64 (-1), .int .i64 2] from (k32_mkM _ _ _ (⟨(-1), 2⟩ : S32) )) (Reps.c2 (show Kd.M k32 _ _ _ (⟨(-2), 1⟩ : S32) [.int .i64 (-2), .int .i64 1] from (k32_mkM _ _ _ (⟨(-2), 1⟩ : S32) )) (Reps.c2 (show Kd.M k32 _ _ _ (⟨(-2), 0⟩ : S32) [.int .i64 (-2), .int .i64 0] from (k32_mkM _ _ _ (⟨(-2), 0⟩ : S32) )) (Reps.c2 (show Kd.M k32 _ _ _ (⟨(-2), (-1)⟩ : S32) [.int .i64 (-2), .int .i64 (-1)] from (k32_mkM _ _ _ (⟨(-2), (-1)⟩ : S32) )) (Reps.c2 (show Kd.M k32 _ _ _ (⟨(-1), (-2)⟩ : S32) [.int .i64 (-1), .int .i64 (-2)] from (k32_mkM _ _ _ (⟨(-1), (-2)⟩ : S32) )) (Reps.c2 (show Kd.M k32 _ _ _ (⟨0, (-2)⟩ : S32) [.int .i64 0, .int .i64 (-2)] from (k32_mkM _ _ _ (⟨0, (-2)⟩ : S32) )) (Reps.c2 (show Kd.M k32 _ _ _ (⟨1, (-2)⟩ : S32) [.int .i64 1, .int .i64 (-2)] from (k32_mkM _ _ _ (⟨1, (-2)⟩ : S32) )) (Reps.c2 (show Kd.M k32 _ _ _ (⟨2, (-1)⟩ : S32) [.int .i64 2, .int .i64 (-1)] from (k32_mkM _ _ _ (⟨2, (-1)⟩ : S32) )) (Reps.none _ _)))))))))))))); intro v123 w2 ho3 hb hg_ hnew_; clear hg_ hnew_; (first | rw [← Ny122.out] at ho3 | (simp only [Int.reduceToNat] at ho3; rw [← Ny122.out] at ho3)); have n0_ := Aside0.mk (Kd.R_lower ho3 (keep_size (w := w) (g := g) (row := none) qq4)); have n1_ := Aside0.mk (IsS81.below qq8 hb); have n2_ := Aside0.mk (KeepBut.trans qq4 (KeepBut.of_below hb g none) (.inl rfl)); have n3_ := Aside0.mk (below_step qq7 hb); clear HI0; clear HK; clear HB; have HO124 := n0_; have HI0 := n1_; have HK := n2_; have HB := n3_; clear n0_ n1_ n2_ n3_; clear hb ho3) | ((with_reducible refine gate_dst (N := 20) rfl ?_); refine Kd.R_lit k32 _ 32 ?hg (N := 20) ?hd (xs := ([] : List (S32))) (inner := []) (ok := fun _ => True) (okp := fun _ => True) ?hr ?hp (fun _ hk => hk) trivial (Below.refl _ _) (Nat.le_refl _) (by simp) ?_; (case hd => rfl); (case hg => rfl); (case hr => exact qq16); (case hp => exact (Reps.none _ _)); intro v126 w4 ho5 hb hg_ hnew_; clear hg_ hnew_; (first | rw [← Ny125.out] at ho5 | (simp only [Int.reduceToNat] at ho5; rw [← Ny125.out] at ho5)); have n0_ := Aside0.mk (Kd.R_elder' (qq11 HO124.out) (Kd.R_base ho5) hb); have n1_ := Aside0.mk (Kd.R_lower (Kd.R_new' ho5 (Kd.R_lt (qq11 HO124.out))) (keep_size (w := w) (g := g) (row := none) qq4)); have n2_ := Aside0.mk (IsS81.below qq8 hb); have n3_ := Aside0.mk (KeepBut.trans qq4 (KeepBut.of_below hb g none) (.inl rfl)); have n4_ := Aside0.mk (below_step qq7 hb); clear HO124; clear HI0; clear HK; clear HB; have HO124 := n0_; have HO127 := n1_; have HI0 := n2_; have HK := n3_; have HB := n4_; clear n0_ n1_ n2_ n3_ n4_; clear hb ho5))
  go_loopg [4, 5] k (fun kq v4 v5 w' => ∃ (x4_1 : List (S32)) (x5_1 : Int) (x1001_1 : Int), v5 = .int .i64 x5_1 ∧ Aside0 (spec_l92Star.l0 kq y122 x4_1 x5_1 s0_0 x1001_1 = some (r1, r2)) ∧ Aside0 (kq ≤ k) ∧ Aside0 (Kd.R k32 32 w' w.heap.size (fun k_ => some k_ ≠ (v4 : Value).ownBlock) v123 y122) ∧ Aside0 (Kd.R k32 32 w' w.heap.size (fun k_ => some k_ ≠ (v123 : Value).ownBlock) v4 x4_1) ∧ Aside0 (IsS81 w0 w' g s0_0 x1001_1) ∧ Aside0 (KeepBut w w' g none) ∧ Aside0 (Below w0.heap.size w0 w'))
  case atStart => exact ⟨(y125), (0), (s0_1), qq13, H', ⟨Nat.le_refl _⟩, ⟨qq36 HO124.out⟩, ⟨qq36 HO127.out⟩, ⟨qq8⟩, ⟨qq4⟩, ⟨qq7⟩⟩
  case round =>
    clear H'
    try clear c2
    try clear p2
    obtain ⟨x4_1, x5_1, x1001_1, rfl, HA, HK1, HO_3, HO_4, HI0, HK, HB⟩ := hrel
    cases gk with
    | zero => exact absurd HA.out (by simp [spec_l92Star.l0])
    | succ k1 =>
      have H := HA.out
      clear HA
      simp only [spec_l92Star.l0] at H
      by_cases c6 : x5_1 < (y122.length : Int)
      · rw [if_pos c6] at H
        have c6b0 : decide (x5_1 < (y122.length : Int)) = true := decide_eq_true c6
        clear c6
        by_cases c7 : (Int.tmod x5_1 4) = 0
        · rw [if_pos c7] at H
          have c7b0 : ((Int.tmod x5_1 4) == 0) = true := beq_iff_eq.mpr c7
          have c7b1 : ((Int.tmod x5_1 4) != 0) = false := bne_eq_false_iff_eq.mpr c7
          clear c7
          replace H := Option.bind_eq_some_iff.mp H
          obtain ⟨⟨t128, t129⟩, A80, H⟩ := H
          replace H : (if 0 ≤ x5_1 then (if x4_1.length < 8796093022208 then (spec_l92Star.l0 k1 y122 (x4_1 ++ [(⟨wrap64 ((wrap64 (1 + t128)) * ((rd_T32 y122 x5_1).f0)), wrap64 ((wrap64 (1 + t128)) * ((rd_T32 y122 x5_1).f1))⟩ : S32)]) (wrap64 (x5_1 + 1)) s0_0 t129) else (none)) else (none)) = some (r1, r2) := H
          have A8 := Aside0.mk A80
          clear A80
          by_cases c9 : 0 ≤ x5_1
          · rw [if_pos c9] at H
            have c9b0 : decide (0 ≤ x5_1) = true := decide_eq_true c9
            clear c9
            by_cases c10 : x4_1.length < 8796093022208
            · rw [if_pos c10] at H
              have LMc10 := Aside0.mk c10
              clear c10
              obtain ⟨y132, hy132⟩ : ∃ y_ : List (S32), y_ = (x4_1 ++ [(⟨wrap64 ((wrap64 (1 + t128)) * ((rd_T32 y122 x5_1).f0)), wrap64 ((wrap64 (1 + t128)) * ((rd_T32 y122 x5_1).f1))⟩ : S32)]) := ⟨_, rfl⟩
              replace H : (spec_l92Star.l0 k1 y122 y132 (wrap64 (x5_1 + 1)) s0_0 t129) = some (r1, r2) := by first | (rw [hy132]; with_reducible exact H) | (have H2_ := (Option.bind_some _ _).symm.trans H; rw [hy132]; with_reducible exact H2_) | (have H2_ := (Option.bind_some _ _).symm.trans H; with_reducible exact H2_) | with_reducible exact H | (rw [hy132]; exact H) | exact H
              have Ny132 := Aside0.mk hy132
              clear hy132
              have H' := Aside0.mk H
              clear H
              obtain ⟨Ao11, co11, eo11⟩ := Kd.R_slice HO_3.out
              subst eo11
              try go_wp2_with (first | ((with_reducible refine gate_callee (f := 48) rfl ?_); refine goesL_ (some 36) rfl rfl Try.func48 (by kernel_rfl) rfl #[.pointer (some ⟨g, 0, none⟩), .int .i64 3] rfl qq2 ?_; (with_reducible refine (spec_l6Rd_pick.calls k1 g s0_0 x1001_1 3 t128 t129 w0 _ ?side1 ?side2 A8.out).mono ?_); (case side1 => exact qq8); (case side2 => exact qq7); rintro e w12 ⟨rfl, hi, hb, hk⟩; refine ⟨_, rfl, ?_⟩; have n0_ := Aside0.mk (Kd.R_mono (Kd.R_keep (IsS81.apart (show IsS81 w0 _ g s0_0 x1001_1 from by repeat (first | (with_reducible first | exact HI0.out | apply IsS81.alloc | apply IsS81.drewN | apply IsS81.drew | apply IsS81.set_1) | exact HI0.out)) (qq11 HO_3.out) (by decide)) hk (fun _ h => h.2)) (fun _ h => h.1)); have n1_ := Aside0.mk (Kd.R_mono (Kd.R_keep (IsS81.apart (show IsS81 w0 _ g s0_0 x1001_1 from by repeat (first | (with_reducible first | exact HI0.out | apply IsS81.alloc | apply IsS81.drewN | apply IsS81.drew | apply IsS81.set_1) | exact HI0.out)) (qq11 HO_4.out) (by decide)) hk (fun _ h => h.2)) (fun _ h => h.1)); have n2_ := Aside0.mk (KeepBut.trans qq4 hk (.inl rfl)); have n3_ := Aside0.mk (hb); have n4_ := Aside0.mk (hi); clear HO_3; clear HO_4; clear HK; clear HB; clear HI0; have HO_3 := n0_; have HO_4 := n1_; have HK := n2_; have HB := n3_; have HI0 := n4_; clear n0_ n1_ n2_ n3_ n4_; (try clear hb); (try clear hb2); (try clear hk); (try clear hi)))
              have n0_ := Aside0.mk (Kd.R_drew HO_3.out)
              have n1_ := Aside0.mk (Kd.R_drew HO_4.out)
              have n2_ := Aside0.mk (IsS81.drew HI0.out)
              have n3_ := Aside0.mk (keep_drew HK.out)
              have n4_ := Aside0.mk (below_drew1 HB.out)
              clear HO_3
              clear HO_4
              clear HI0
              clear HK
              clear HB
              have HO_3 := n0_
              have HO_4 := n1_
              have HI0 := n2_
              have HK := n3_
              have HB := n4_
              clear n0_ n1_ n2_ n3_ n4_
              have p130 : 0 ≤ (x5_1 : Int) := of_decide_eq_true qq18
              have q130 : x5_1 < (y122.length : Int) := of_decide_eq_true qq18
              obtain ⟨ad130, e130, hx130_0, hx130_1⟩ := at_T32 (Kd.R_reads' HO_3.out).2.2 x5_1 p130 q130
              cases e130
              replace p130 := eq_true p130
              replace q130 := eq_true q130
              have p131 : 0 ≤ (x5_1 : Int) := of_decide_eq_true qq18
              have q131 : x5_1 < (y122.length : Int) := of_decide_eq_true qq18
              obtain ⟨ad131, e131, hx131_0, hx131_1⟩ := at_T32 (Kd.R_reads' HO_3.out).2.2 x5_1 p131 q131
              obtain rfl : ad130 = ad131 := (by injection e131)
              replace p131 := eq_true p131
              replace q131 := eq_true q131
              refine start_ (n := 19) (S := fun w' => w'.cell? (ad130.add ((x5_1).toNat * 2)) = some (.int .i64 ((rd_T32 y122 x5_1).f0)) ∧ w'.cell? ⟨(ad130.add ((x5_1).toNat * 2)).block, (ad130.add ((x5_1).toNat * 2)).off + 1, none⟩ = some (.int .i64 ((rd_T32 y122 x5_1).f1)) ∧ w'.cell? (ad130.add ((x5_1).toNat * 2)) = some (.int .i64 ((rd_T32 y122 x5_1).f0)) ∧ w'.cell? ⟨(ad130.add ((x5_1).toNat * 2)).block, (ad130.add ((x5_1).toNat * 2)).off + 1, none⟩ = some (.int .i64 ((rd_T32 y122 x5_1).f1))) (ds := [16, 17]) #[false, false, false, false, false, false, false, false, false, false, false, false, false, false, false, false, false, false, false] (by kernel_rfl) rfl rfl ⟨hx130_0, hx130_1, hx131_0, hx131_1⟩ (fun hHeld => ?_); refine with_tabW spec_l92Star.tab8 spec_l92Star.bits8 (fun HT_ HW_ => ?_)
              generalize w12.drew = w13 at HO_3 HO_4 HI0 HK HB hx130_0 hx130_1 hx131_0 hx131_1 hHeld ⊢
              refine pure_ (i := 0) (N := some 38) #[true, false, false, false, false, false, false, false, false, false, false, false, false, false, false, false, false, false, false] rfl rfl (any_of HT_.out (by kernel_rfl)) (fun _ _ _ h => h) (Or.inl ⟨by rfl, pA_⟩) pB_ ?_
              refine pure_ (i := 1) (N := some 39) #[true, true, false, false, false, false, false, false, false, false, false, false, false, false, false, false, false, false, false] rfl rfl (any_of HT_.out (by kernel_rfl)) (fun _ _ _ h => h) (Or.inl ⟨by rfl, pA_⟩) pB_ ?_
              refine pure_ (i := 2) (N := some 40) #[true, true, true, false, false, false, false, false, false, false, false, false, false, false, false, false, false, false, false] rfl rfl (any_of HT_.out (by kernel_rfl)) (fun _ _ _ h => h) (Or.inl ⟨by rfl, pA_⟩) pB_ ?_
              refine pure_ (i := 3) (N := some 41) #[true, true, true, true, false, false, false, false, false, false, false, false, false, false, false, false, false, false, false] rfl rfl (any_of HT_.out (by kernel_rfl)) (fun _ _ _ h => h) (Or.inl ⟨by rfl, pA_⟩) pB_ ?_
              refine pure_ (i := 4) (N := some 42) #[true, true, true, true, true, false, false, false, false, false, false, false, false, false, false, false, false, false, false] rfl rfl (any_of HT_.out (by kernel_rfl)) (fun _ _ _ h => h) (Or.inl ⟨by rfl, pA_⟩) pB_ ?_
              refine pure_ (i := 5) (N := some 43) #[true, true, true, true, true, true, false, false, false, false, false, false, false, false, false, false, false, false, false] rfl rfl (any_of HT_.out (by kernel_rfl)) (fun _ _ _ h => h) (Or.inl ⟨by rfl, pA_⟩) pB_ ?_
              refine pure_ (i := 8) (N := some 46) #[true, true, true, true, true, true, false, false, true, false, false, false, false, false, false, false, false, false, false] rfl rfl (any_of HT_.out (by kernel_rfl)) (fun _ _ _ h => h) (Or.inl ⟨by rfl, pA_⟩) pB_ ?_
              refine pure_ (i := 9) (N := some 47) #[true, true, true, true, true, true, false, false, true, true, false, false, false, false, false, false, false, false, false] rfl rfl (any_of HT_.out (by kernel_rfl)) (fun _ _ _ h => h) (Or.inl ⟨by rfl, pA_⟩) pB_ ?_
              refine pure_ (i := 10) (N := some 48) #[true, true, true, true, true, true, false, false, true, true, true, false, false, false, false, false, false, false, false] rfl rfl (any_of HT_.out (by kernel_rfl)) (fun _ _ _ h => h) (Or.inl ⟨by rfl, pA_⟩) pB_ ?_
              refine pure_ (i := 11) (N := some 49) #[true, true, true, true, true, true, false, false, true, true, true, true, false, false, false, false, false, false, false] rfl rfl (any_of HT_.out (by kernel_rfl)) (fun _ _ _ h => h) (Or.inl ⟨by rfl, pA_⟩) pB_ ?_
              refine pure_ (i := 12) (N := some 50) #[true, true, true, true, true, true, false, false, true, true, true, true, true, false, false, false, false, false, false] rfl rfl (any_of HT_.out (by kernel_rfl)) (fun _ _ _ h => h) (Or.inl ⟨by rfl, pA_⟩) pB_ ?_
              refine take_ (i := 6) (N := some 44) (v := ?_) (a' := ?_) #[true, true, true, true, true, true, true, false, true, true, true, true, true, false, false, false, false, false, false] rfl rfl (take_ofW HT_.out HW_.out (by kernel_rfl)) (fun _ _ _ h => h) (Or.inl ⟨by rfl, ?_⟩) hHeld ?_ ?_
              rotate_left
              · rintro w' ⟨s0, s1, s2, s3⟩
                go_simp
                with_reducible rfl
              rotate_left
              · simp only [Act.put, List.setIfInBounds_toArray, List.set_cons_zero, List.set_cons_succ, i64_w, i32_w]
                rfl
              refine pure_ (i := 7) (N := some 45) #[true, true, true, true, true, true, true, true, true, true, true, true, true, false, false, false, false, false, false] rfl rfl (any_of HT_.out (by kernel_rfl)) (fun _ _ _ h => h) (Or.inl ⟨by rfl, pA_⟩) pB_ ?_
              refine take_ (i := 13) (N := some 51) (v := ?_) (a' := ?_) #[true, true, true, true, true, true, true, true, true, true, true, true, true, true, false, false, false, false, false] rfl rfl (take_ofW HT_.out HW_.out (by kernel_rfl)) (fun _ _ _ h => h) (Or.inl ⟨by rfl, ?_⟩) hHeld ?_ ?_
              rotate_left
              · rintro w' ⟨s0, s1, s2, s3⟩
                go_simp
                with_reducible rfl
              rotate_left
              · simp only [Act.put, List.setIfInBounds_toArray, List.set_cons_zero, List.set_cons_succ, i64_w, i32_w]
                rfl
              refine pure_ (i := 14) (N := some 52) #[true, true, true, true, true, true, true, true, true, true, true, true, true, true, true, false, false, false, false] rfl rfl (any_of HT_.out (by kernel_rfl)) (fun _ _ _ h => h) (Or.inl ⟨by rfl, pA_⟩) pB_ ?_
              refine pure_ (i := 15) (N := some 53) #[true, true, true, true, true, true, true, true, true, true, true, true, true, true, true, true, false, false, false] rfl rfl (any_of HT_.out (by kernel_rfl)) (fun _ _ _ h => h) (Or.inl ⟨by rfl, pA_⟩) pB_ ?_
              refine last_ (i := 16) (N := some 54) #[true, true, true, true, true, true, true, true, true, true, true, true, true, true, true, true, true, false, false] rfl rfl (one_of HT_.out (by kernel_rfl)) (by decide) (fun K hK => ?_)
              refine value_ (w1 := ?_) (v := ?_) (by rfl) rfl ?_ ?_
              rotate_left 2
              · go_simp
                constructor
                · rfl
                · rfl
              refine hK.out _ _ ?_
              clear hK K
              refine norm_ (a' := ?_) ?_ ?_
              rotate_left
              · show Act.put _ (some 54) _ = _
                simp only [Act.put, List.setIfInBounds_toArray, List.set_cons_zero, List.set_cons_succ, i64_w, i32_w]
                rfl
              refine last_ (i := 17) (N := some 55) #[true, true, true, true, true, true, true, true, true, true, true, true, true, true, true, true, true, true, false] rfl rfl (one_of HT_.out (by kernel_rfl)) (by decide) (fun K hK => ?_)
              refine Kd.R_append_step k32 w.heap.size (by rfl) (.tmp 38) (.tmp 54) 23 32 (.agg #[(.int .i64 0), (.int .i64 0)]) 16 rfl Try.underlying23 info32 rfl (by decide) (by omega) u4 x4_1 (⟨wrap64 ((wrap64 (1 + t128)) * ((rd_T32 y122 x5_1).f0)), wrap64 ((wrap64 (1 + t128)) * ((rd_T32 y122 x5_1).f1))⟩ : S32) [.int .i64 (wrap64 ((wrap64 (1 + t128)) * ((rd_T32 y122 x5_1).f0))), .int .i64 (wrap64 ((wrap64 (1 + t128)) * ((rd_T32 y122 x5_1).f1)))] (fun k_ => some k_ ≠ (.slice (some ad130) y122.length co11 : Value).ownBlock) (fun _ => False) rfl rfl ?aP (fun _ hk => hk.elim) ?aF ?aO (Below.refl _ _) ?aS ?aL ?_
              (case aP => exact k32_mkM _ _ _ (⟨wrap64 ((wrap64 (1 + t128)) * ((rd_T32 y122 x5_1).f0)), wrap64 ((wrap64 (1 + t128)) * ((rd_T32 y122 x5_1).f1))⟩ : S32))
              (case aF => exact (fun k_ hk => Kd.fresh' (Kd.R_lt (qq11 HO_3.out)) k_ hk))
              (case aO => exact (qq11 HO_4.out))
              (case aS => exact qq64)
              (case aL => have := LMc10.out; omega)
              intro v133 w14 ho hb hg hat
              rw [← Ny132.out] at ho
              have n0_ := Aside0.mk (Kd.R_after (ok := (fun _ => True)) qq67 hg hat)
              have n1_ := Aside0.mk (IsS81.grown qq8 hg (IsS81.own_ne HI0.out HO_4.out (by decide)))
              have n2_ := Aside0.mk (below_weaken qq7 HL.out hb)
              have n3_ := Aside0.mk (KeepBut.trans qq4 (KeepBut.of_grown hg g) (Kd.R_base2 HO_4.out))
              have n4_ := Aside0.mk (ho)
              clear HO_3
              clear HI0
              clear HB
              clear HK
              clear HO_4
              have HO_3 := n0_
              have HI0 := n1_
              have HB := n2_
              have HK := n3_
              have HO134 := n4_
              clear n0_ n1_ n2_ n3_ n4_
              clear ho hb hg hat
              refine hK.out _ _ ?_
              clear hK K
              refine norm_ (a' := ?_) ?_ ?_
              rotate_left
              · show Act.put _ (some 55) _ = _
                simp only [Act.put, List.setIfInBounds_toArray, List.set_cons_zero, List.set_cons_succ, i64_w, i32_w]
                rfl
              refine pure_ (i := 18) (N := some 4) #[true, true, true, true, true, true, true, true, true, true, true, true, true, true, true, true, true, true, true] rfl rfl (any_of HT_.out (by kernel_rfl)) (fun _ _ _ h => h) (Or.inl ⟨by rfl, pA_⟩) pB_ ?_
              refine done_ (done_of HT_.out (by kernel_rfl)) ?_
              try go_wp2
              go_roundg k1
              case measure => have := HK1.out; omega
              case rel => exact ⟨(y132), (wrap64 (x5_1 + 1)), (t129), qq13, H', ⟨by have := HK1.out; omega⟩, ⟨qq36 HO_3.out⟩, ⟨qq11 HO134.out⟩, ⟨qq8⟩, ⟨qq4⟩, ⟨qq7⟩⟩
            · rw [if_neg c10] at H
              exact absurd H (by simp)
          · rw [if_neg c9] at H
            exact absurd H (by simp)
        · rw [if_neg c7] at H
          have c7b0 : ((Int.tmod x5_1 4) == 0) = false := beq_eq_false_iff_ne.mpr c7
          have c7b1 : ((Int.tmod x5_1 4) != 0) = true := bne_iff_ne.mpr c7
          replace H := Option.bind_eq_some_iff.mp H
          obtain ⟨⟨t135, t136⟩, A150, H⟩ := H
          replace H : (if t135 = 0 then ((spec_l6Rd_pick.f k1 s0_0 t136 3).bind fun bt137 => (if 0 ≤ x5_1 then (if x4_1.length < 8796093022208 then (spec_l92Star.l0 k1 y122 (x4_1 ++ [(⟨wrap64 ((wrap64 (1 + bt137.1)) * ((rd_T32 y122 x5_1).f0)), wrap64 ((wrap64 (1 + bt137.1)) * ((rd_T32 y122 x5_1).f1))⟩ : S32)]) (wrap64 (x5_1 + 1)) s0_0 bt137.2) else (none)) else (none))) else (spec_l92Star.l0 k1 y122 x4_1 (wrap64 (x5_1 + 1)) s0_0 t136)) = some (r1, r2) := H
          have A15 := Aside0.mk A150
          clear A150
          by_cases c16 : t135 = 0
          · rw [if_pos c16] at H
            have c16b0 : (t135 == 0) = true := beq_iff_eq.mpr c16
            have c16b1 : (t135 != 0) = false := bne_eq_false_iff_eq.mpr c16
            clear c16
            replace H := Option.bind_eq_some_iff.mp H
            obtain ⟨⟨t137, t138⟩, A170, H⟩ := H
            replace H : (if 0 ≤ x5_1 then (if x4_1.length < 8796093022208 then (spec_l92Star.l0 k1 y122 (x4_1 ++ [(⟨wrap64 ((wrap64 (1 + t137)) * ((rd_T32 y122 x5_1).f0)), wrap64 ((wrap64 (1 + t137)) * ((rd_T32 y122 x5_1).f1))⟩ : S32)]) (wrap64 (x5_1 + 1)) s0_0 t138) else (none)) else (none)) = some (r1, r2) := H
            have A17 := Aside0.mk A170
            clear A170
            by_cases c18 : 0 ≤ x5_1
            · rw [if_pos c18] at H
              have c18b0 : decide (0 ≤ x5_1) = true := decide_eq_true c18
              clear c18
              by_cases c19 : x4_1.length < 8796093022208
              · rw [if_pos c19] at H
                have LMc19 := Aside0.mk c19
                clear c19
                obtain ⟨y141, hy141⟩ : ∃ y_ : List (S32), y_ = (x4_1 ++ [(⟨wrap64 ((wrap64 (1 + t137)) * ((rd_T32 y122 x5_1).f0)), wrap64 ((wrap64 (1 + t137)) * ((rd_T32 y122 x5_1).f1))⟩ : S32)]) := ⟨_, rfl⟩
                replace H : (spec_l92Star.l0 k1 y122 y141 (wrap64 (x5_1 + 1)) s0_0 t138) = some (r1, r2) := by first | (rw [hy141]; with_reducible exact H) | (have H2_ := (Option.bind_some _ _).symm.trans H; rw [hy141]; with_reducible exact H2_) | (have H2_ := (Option.bind_some _ _).symm.trans H; with_reducible exact H2_) | with_reducible exact H | (rw [hy141]; exact H) | exact H
                have Ny141 := Aside0.mk hy141
                clear hy141
                have H' := Aside0.mk H
                clear H
                obtain ⟨Ao20, co20, eo20⟩ := Kd.R_slice HO_3.out
                subst eo20
                try go_wp2_with (first | (go_at_call 48; (with_reducible refine (spec_l6Rd_pick.calls k1 g s0_0 x1001_1 3 t135 t136 w0 _ ?side1 ?side2 A15.out).mono ?_); (case side1 => exact qq8); (case side2 => exact qq7); rintro e w21 ⟨rfl, hi, hb, hk⟩; have n0_ := Aside0.mk (Kd.R_mono (Kd.R_keep (IsS81.apart (show IsS81 w0 _ g s0_0 x1001_1 from by repeat (first | (with_reducible first | exact HI0.out | apply IsS81.alloc | apply IsS81.drewN | apply IsS81.drew | apply IsS81.set_1) | exact HI0.out)) (qq11 HO_3.out) (by decide)) hk (fun _ h => h.2)) (fun _ h => h.1)); have n1_ := Aside0.mk (Kd.R_mono (Kd.R_keep (IsS81.apart (show IsS81 w0 _ g s0_0 x1001_1 from by repeat (first | (with_reducible first | exact HI0.out | apply IsS81.alloc | apply IsS81.drewN | apply IsS81.drew | apply IsS81.set_1) | exact HI0.out)) (qq11 HO_4.out) (by decide)) hk (fun _ h => h.2)) (fun _ h => h.1)); have n2_ := Aside0.mk (KeepBut.trans qq4 hk (.inl rfl)); have n3_ := Aside0.mk (hb); have n4_ := Aside0.mk (hi); clear HO_3; clear HO_4; clear HK; clear HB; clear HI0; have HO_3 := n0_; have HO_4 := n1_; have HK := n2_; have HB := n3_; have HI0 := n4_; clear n0_ n1_ n2_ n3_ n4_; (try clear hb); (try clear hb2); (try clear hk); (try clear hi)) | ((with_reducible refine gate_callee (f := 48) rfl ?_); refine goesL_ (some 36) rfl rfl Try.func48 (by kernel_rfl) rfl #[.pointer (some ⟨g, 0, none⟩), .int .i64 3] rfl qq2 ?_; (with_reducible refine (spec_l6Rd_pick.calls k1 g s0_0 t136 3 t137 t138 w0 _ ?side1 ?side2 A17.out).mono ?_); (case side1 => exact qq8); (case side2 => exact qq7); rintro e w22 ⟨rfl, hi, hb, hk⟩; refine ⟨_, rfl, ?_⟩; have n0_ := Aside0.mk (Kd.R_mono (Kd.R_keep (IsS81.apart (show IsS81 w0 _ g s0_0 t136 from by repeat (first | (with_reducible first | exact HI0.out | apply IsS81.alloc | apply IsS81.drewN | apply IsS81.drew | apply IsS81.set_1) | exact HI0.out)) (qq11 HO_3.out) (by decide)) hk (fun _ h => h.2)) (fun _ h => h.1)); have n1_ := Aside0.mk (Kd.R_mono (Kd.R_keep (IsS81.apart (show IsS81 w0 _ g s0_0 t136 from by repeat (first | (with_reducible first | exact HI0.out | apply IsS81.alloc | apply IsS81.drewN | apply IsS81.drew | apply IsS81.set_1) | exact HI0.out)) (qq11 HO_4.out) (by decide)) hk (fun _ h => h.2)) (fun _ h => h.1)); have n2_ := Aside0.mk (KeepBut.trans qq4 hk (.inl rfl)); have n3_ := Aside0.mk (hb); have n4_ := Aside0.mk (hi); clear HO_3; clear HO_4; clear HK; clear HB; clear HI0; have HO_3 := n0_; have HO_4 := n1_; have HK := n2_; have HB := n3_; have HI0 := n4_; clear n0_ n1_ n2_ n3_ n4_; (try clear hb); (try clear hb2); (try clear hk); (try clear hi)))
                have n0_ := Aside0.mk (Kd.R_drew HO_3.out)
                have n1_ := Aside0.mk (Kd.R_drew HO_4.out)
                have n2_ := Aside0.mk (IsS81.drew HI0.out)
                have n3_ := Aside0.mk (keep_drew HK.out)
                have n4_ := Aside0.mk (below_drew1 HB.out)
                clear HO_3
                clear HO_4
                clear HI0
                clear HK
                clear HB
                have HO_3 := n0_
                have HO_4 := n1_
                have HI0 := n2_
                have HK := n3_
                have HB := n4_
                clear n0_ n1_ n2_ n3_ n4_
                have p139 : 0 ≤ (x5_1 : Int) := of_decide_eq_true qq18
                have q139 : x5_1 < (y122.length : Int) := of_decide_eq_true qq18
                obtain ⟨ad139, e139, hx139_0, hx139_1⟩ := at_T32 (Kd.R_reads' HO_3.out).2.2 x5_1 p139 q139
                cases e139
                replace p139 := eq_true p139
                replace q139 := eq_true q139
                have p140 : 0 ≤ (x5_1 : Int) := of_decide_eq_true qq18
                have q140 : x5_1 < (y122.length : Int) := of_decide_eq_true qq18
                obtain ⟨ad140, e140, hx140_0, hx140_1⟩ := at_T32 (Kd.R_reads' HO_3.out).2.2 x5_1 p140 q140
                obtain rfl : ad139 = ad140 := (by injection e140)
                replace p140 := eq_true p140
                replace q140 := eq_true q140
                refine start_ (n := 19) (S := fun w' => w'.cell? (ad139.add ((x5_1).toNat * 2)) = some (.int .i64 ((rd_T32 y122 x5_1).f0)) ∧ w'.cell? ⟨(ad139.add ((x5_1).toNat * 2)).block, (ad139.add ((x5_1).toNat * 2)).off + 1, none⟩ = some (.int .i64 ((rd_T32 y122 x5_1).f1)) ∧ w'.cell? (ad139.add ((x5_1).toNat * 2)) = some (.int .i64 ((rd_T32 y122 x5_1).f0)) ∧ w'.cell? ⟨(ad139.add ((x5_1).toNat * 2)).block, (ad139.add ((x5_1).toNat * 2)).off + 1, none⟩ = some (.int .i64 ((rd_T32 y122 x5_1).f1))) (ds := [16, 17]) #[false, false, false, false, false, false, false, false, false, false, false, false, false, false, false, false, false, false, false] (by kernel_rfl) rfl rfl ⟨hx139_0, hx139_1, hx140_0, hx140_1⟩ (fun hHeld => ?_); refine with_tabW spec_l92Star.tab8 spec_l92Star.bits8 (fun HT_ HW_ => ?_)
                generalize w22.drew = w23 at HO_3 HO_4 HI0 HK HB hx139_0 hx139_1 hx140_0 hx140_1 hHeld ⊢
                refine pure_ (i := 0) (N := some 38) #[true, false, false, false, false, false, false, false, false, false, false, false, false, false, false, false, false, false, false] rfl rfl (any_of HT_.out (by kernel_rfl)) (fun _ _ _ h => h) (Or.inl ⟨by rfl, pA_⟩) pB_ ?_
                refine pure_ (i := 1) (N := some 39) #[true, true, false, false, false, false, false, false, false, false, false, false, false, false, false, false, false, false, false] rfl rfl (any_of HT_.out (by kernel_rfl)) (fun _ _ _ h => h) (Or.inl ⟨by rfl, pA_⟩) pB_ ?_
                refine pure_ (i := 2) (N := some 40) #[true, true, true, false, false, false, false, false, false, false, false, false, false, false, false, false, false, false, false] rfl rfl (any_of HT_.out (by kernel_rfl)) (fun _ _ _ h => h) (Or.inl ⟨by rfl, pA_⟩) pB_ ?_
                refine pure_ (i := 3) (N := some 41) #[true, true, true, true, false, false, false, false, false, false, false, false, false, false, false, false, false, false, false] rfl rfl (any_of HT_.out (by kernel_rfl)) (fun _ _ _ h => h) (Or.inl ⟨by rfl, pA_⟩) pB_ ?_
                refine pure_ (i := 4) (N := some 42) #[true, true, true, true, true, false, false, false, false, false, false, false, false, false, false, false, false, false, false] rfl rfl (any_of HT_.out (by kernel_rfl)) (fun _ _ _ h => h) (Or.inl ⟨by rfl, pA_⟩) pB_ ?_
                refine pure_ (i := 5) (N := some 43) #[true, true, true, true, true, true, false, false, false, false, false, false, false, false, false, false, false, false, false] rfl rfl (any_of HT_.out (by kernel_rfl)) (fun _ _ _ h => h) (Or.inl ⟨by rfl, pA_⟩) pB_ ?_
                refine pure_ (i := 8) (N := some 46) #[true, true, true, true, true, true, false, false, true, false, false, false, false, false, false, false, false, false, false] rfl rfl (any_of HT_.out (by kernel_rfl)) (fun _ _ _ h => h) (Or.inl ⟨by rfl, pA_⟩) pB_ ?_
                refine pure_ (i := 9) (N := some 47) #[true, true, true, true, true, true, false, false, true, true, false, false, false, false, false, false, false, false, false] rfl rfl (any_of HT_.out (by kernel_rfl)) (fun _ _ _ h => h) (Or.inl ⟨by rfl, pA_⟩) pB_ ?_
                refine pure_ (i := 10) (N := some 48) #[true, true, true, true, true, true, false, false, true, true, true, false, false, false, false, false, false, false, false] rfl rfl (any_of HT_.out (by kernel_rfl)) (fun _ _ _ h => h) (Or.inl ⟨by rfl, pA_⟩) pB_ ?_
                refine pure_ (i := 11) (N := some 49) #[true, true, true, true, true, true, false, false, true, true, true, true, false, false, false, false, false, false, false] rfl rfl (any_of HT_.out (by kernel_rfl)) (fun _ _ _ h => h) (Or.inl ⟨by rfl, pA_⟩) pB_ ?_
                refine pure_ (i := 12) (N := some 50) #[true, true, true, true, true, true, false, false, true, true, true, true, true, false, false, false, false, false, false] rfl rfl (any_of HT_.out (by kernel_rfl)) (fun _ _ _ h => h) (Or.inl ⟨by rfl, pA_⟩) pB_ ?_
                refine take_ (i := 6) (N := some 44) (v := ?_) (a' := ?_) #[true, true, true, true, true, true, true, false, true, true, true, true, true, false, false, false, false, false, false] rfl rfl (take_ofW HT_.out HW_.out (by kernel_rfl)) (fun _ _ _ h => h) (Or.inl ⟨by rfl, ?_⟩) hHeld ?_ ?_
                rotate_left
                · rintro w' ⟨s0, s1, s2, s3⟩
                  go_simp
                  with_reducible rfl
                rotate_left
                · simp only [Act.put, List.setIfInBounds_toArray, List.set_cons_zero, List.set_cons_succ, i64_w, i32_w]
                  rfl
                refine pure_ (i := 7) (N := some 45) #[true, true, true, true, true, true, true, true, true, true, true, true, true, false, false, false, false, false, false] rfl rfl (any_of HT_.out (by kernel_rfl)) (fun _ _ _ h => h) (Or.inl ⟨by rfl, pA_⟩) pB_ ?_
                refine take_ (i := 13) (N := some 51) (v := ?_) (a' := ?_) #[true, true, true, true, true, true, true, true, true, true, true, true, true, true, false, false, false, false, false] rfl rfl (take_ofW HT_.out HW_.out (by kernel_rfl)) (fun _ _ _ h => h) (Or.inl ⟨by rfl, ?_⟩) hHeld ?_ ?_
                rotate_left
                · rintro w' ⟨s0, s1, s2, s3⟩
                  go_simp
                  with_reducible rfl
                rotate_left
                · simp only [Act.put, List.setIfInBounds_toArray, List.set_cons_zero, List.set_cons_succ, i64_w, i32_w]
                  rfl
                refine pure_ (i := 14) (N := some 52) #[true, true, true, true, true, true, true, true, true, true, true, true, true, true, true, false, false, false, false] rfl rfl (any_of HT_.out (by kernel_rfl)) (fun _ _ _ h => h) (Or.inl ⟨by rfl, pA_⟩) pB_ ?_
                refine pure_ (i := 15) (N := some 53) #[true, true, true, true, true, true, true, true, true, true, true, true, true, true, true, true, false, false, false] rfl rfl (any_of HT_.out (by kernel_rfl)) (fun _ _ _ h => h) (Or.inl ⟨by rfl, pA_⟩) pB_ ?_
                refine last_ (i := 16) (N := some 54) #[true, true, true, true, true, true, true, true, true, true, true, true, true, true, true, true, true, false, false] rfl rfl (one_of HT_.out (by kernel_rfl)) (by decide) (fun K hK => ?_)
                refine value_ (w1 := ?_) (v := ?_) (by rfl) rfl ?_ ?_
                rotate_left 2
                · go_simp
                  constructor
                  · rfl
                  · rfl
                refine hK.out _ _ ?_
                clear hK K
                refine norm_ (a' := ?_) ?_ ?_
                rotate_left
                · show Act.put _ (some 54) _ = _
                  simp only [Act.put, List.setIfInBounds_toArray, List.set_cons_zero, List.set_cons_succ, i64_w, i32_w]
                  rfl
                refine last_ (i := 17) (N := some 55) #[true, true, true, true, true, true, true, true, true, true, true, true, true, true, true, true, true, true, false] rfl rfl (one_of HT_.out (by kernel_rfl)) (by decide) (fun K hK => ?_)
                refine Kd.R_append_step k32 w.heap.size (by rfl) (.tmp 38) (.tmp 54) 23 32 (.agg #[(.int .i64 0), (.int .i64 0)]) 16 rfl Try.underlying23 info32 rfl (by decide) (by omega) u4 x4_1 (⟨wrap64 ((wrap64 (1 + t137)) * ((rd_T32 y122 x5_1).f0)), wrap64 ((wrap64 (1 + t137)) * ((rd_T32 y122 x5_1).f1))⟩ : S32) [.int .i64 (wrap64 ((wrap64 (1 + t137)) * ((rd_T32 y122 x5_1).f0))), .int .i64 (wrap64 ((wrap64 (1 + t137)) * ((rd_T32 y122 x5_1).f1)))] (fun k_ => some k_ ≠ (.slice (some ad139) y122.length co20 : Value).ownBlock) (fun _ => False) rfl rfl ?aP (fun _ hk => hk.elim) ?aF ?aO (Below.refl _ _) ?aS ?aL ?_
                (case aP => exact k32_mkM _ _ _ (⟨wrap64 ((wrap64 (1 + t137)) * ((rd_T32 y122 x5_1).f0)), wrap64 ((wrap64 (1 + t137)) * ((rd_T32 y122 x5_1).f1))⟩ : S32))
                (case aF => exact (fun k_ hk => Kd.fresh' (Kd.R_lt (qq11 HO_3.out)) k_ hk))
                (case aO => exact (qq11 HO_4.out))
                (case aS => exact qq64)
                (case aL => have := LMc19.out; omega)
                intro v142 w24 ho hb hg hat
                rw [← Ny141.out] at ho
                have n0_ := Aside0.mk (Kd.R_after (ok := (fun _ => True)) qq67 hg hat)
                have n1_ := Aside0.mk (IsS81.grown qq8 hg (IsS81.own_ne HI0.out HO_4.out (by decide)))
                have n2_ := Aside0.mk (below_weaken qq7 HL.out hb)
                have n3_ := Aside0.mk (KeepBut.trans qq4 (KeepBut.of_grown hg g) (Kd.R_base2 HO_4.out))
                have n4_ := Aside0.mk (ho)
                clear HO_3
                clear HI0
                clear HB
                clear HK
                clear HO_4
                have HO_3 := n0_
                have HI0 := n1_
                have HB := n2_
                have HK := n3_
                have HO143 := n4_
                clear n0_ n1_ n2_ n3_ n4_
                clear ho hb hg hat
                refine hK.out _ _ ?_
                clear hK K
                refine norm_ (a' := ?_) ?_ ?_
                rotate_left
                · show Act.put _ (some 55) _ = _
                  simp only [Act.put, List.setIfInBounds_toArray, List.set_cons_zero, List.set_cons_succ, i64_w, i32_w]
                  rfl
                refine pure_ (i := 18) (N := some 4) #[true, true, true, true, true, true, true, true, true, true, true, true, true, true, true, true, true, true, true] rfl rfl (any_of HT_.out (by kernel_rfl)) (fun _ _ _ h => h) (Or.inl ⟨by rfl, pA_⟩) pB_ ?_
                refine done_ (done_of HT_.out (by kernel_rfl)) ?_
                try go_wp2
                go_roundg k1
                case measure => have := HK1.out; omega
                case rel => exact ⟨(y141), (wrap64 (x5_1 + 1)), (t138), qq13, H', ⟨by have := HK1.out; omega⟩, ⟨qq36 HO_3.out⟩, ⟨qq11 HO143.out⟩, ⟨qq8⟩, ⟨qq4⟩, ⟨qq7⟩⟩
              · rw [if_neg c19] at H
                exact absurd H (by simp)
            · rw [if_neg c18] at H
              exact absurd H (by simp)
          · rw [if_neg c16] at H
            have c16b0 : (t135 == 0) = false := beq_eq_false_iff_ne.mpr c16
            have c16b1 : (t135 != 0) = true := bne_iff_ne.mpr c16
            have H' := Aside0.mk H
            clear H
            obtain ⟨Ao25, co25, eo25⟩ := Kd.R_slice HO_3.out
            subst eo25
            go_wp2_with (first | (go_at_call 48; (with_reducible refine (spec_l6Rd_pick.calls k1 g s0_0 x1001_1 3 t135 t136 w0 _ ?side1 ?side2 A15.out).mono ?_); (case side1 => exact qq8); (case side2 => exact qq7); rintro e w26 ⟨rfl, hi, hb, hk⟩; have n0_ := Aside0.mk (Kd.R_mono (Kd.R_keep (IsS81.apart (show IsS81 w0 _ g s0_0 x1001_1 from by repeat (first | (with_reducible first | exact HI0.out | apply IsS81.alloc | apply IsS81.drewN | apply IsS81.drew | apply IsS81.set_1) | exact HI0.out)) (qq11 HO_3.out) (by decide)) hk (fun _ h => h.2)) (fun _ h => h.1)); have n1_ := Aside0.mk (Kd.R_mono (Kd.R_keep (IsS81.apart (show IsS81 w0 _ g s0_0 x1001_1 from by repeat (first | (with_reducible first | exact HI0.out | apply IsS81.alloc | apply IsS81.drewN | apply IsS81.drew | apply IsS81.set_1) | exact HI0.out)) (qq11 HO_4.out) (by decide)) hk (fun _ h => h.2)) (fun _ h => h.1)); have n2_ := Aside0.mk (KeepBut.trans qq4 hk (.inl rfl)); have n3_ := Aside0.mk (hb); have n4_ := Aside0.mk (hi); clear HO_3; clear HO_4; clear HK; clear HB; clear HI0; have HO_3 := n0_; have HO_4 := n1_; have HK := n2_; have HB := n3_; have HI0 := n4_; clear n0_ n1_ n2_ n3_ n4_; (try clear hb); (try clear hb2); (try clear hk); (try clear hi)))
            go_roundg k1
            case measure => have := HK1.out; omega
            case rel => exact ⟨(x4_1), (wrap64 (x5_1 + 1)), (t136), qq13, H', ⟨by have := HK1.out; omega⟩, ⟨qq11 HO_3.out⟩, ⟨qq11 HO_4.out⟩, ⟨qq8⟩, ⟨qq4⟩, ⟨qq7⟩⟩
      · rw [if_neg c6] at H
        have c6b0 : decide (x5_1 < (y122.length : Int)) = false := decide_eq_false c6
        clear c6
        simp only [Option.some.injEq, Prod.mk.injEq] at H
        obtain ⟨rfl, rfl⟩ := H
        obtain ⟨Ao27, co27, eo27⟩ := Kd.R_slice HO_3.out
        subst eo27
        go_wp2
        go_ret
        exact ⟨_, qq12, qq61 HO_4.out, qq8, qq7, qq4⟩

end Go.Proofs.Ytgdhgncdpmalcaa.Q
namespace Go.Proofs.Ytgdhgncdpmalcaa.Q
open Go.RowKit Go.Proofs.YtgdhgncdpmalcaaW.PrintWords Go.Proofs.YtgdhgncdpmalcaaW.PrintLast Go.Proofs.YtgdhgncdpmalcaaW.PrintMore
attribute [local go_sem] max2_int min2_int max_two min_two max_three min_three max_four min_four
set_option linter.unusedVariables false
set_option linter.unusedSimpArgs false

/-! ### spec_PolyBack: function 73 -/
def spec_PolyBack.l0 : Nat → List (S32) → List (S32) → Int → Option ((List (S32)) × Bool)
  | 0, _, _, _ => none
  | k + 1, x0, x4, x5 => if x5 > 0 then (if 0 ≤ x5 then (if x5 < (x0.length : Int) then (if x4.length < 8796093022208 then (spec_PolyBack.l0 k x0 (x4 ++ [(⟨(rd_T32 x0 x5).f0, (rd_T32 x0 x5).f1⟩ : S32)]) (wrap64 (x5 - 1))) else (none)) else (none)) else (none)) else (some (x4, true))
def spec_PolyBack.f (k : Nat) (l0 : List (S32)) : Option ((List (S32)) × Bool) := (spec_l31Points.f k l0).bind fun t150 => (if t150 = true then (if 0 < (l0.length : Int) then (spec_PolyBack.l0 k l0 (([(⟨(rd_T32 l0 0).f0, (rd_T32 l0 0).f1⟩ : S32)] : List (S32))) (wrap64 ((l0.length : Int) - 1))) else (none)) else (some ((([] : List (S32))), false)))
set_option maxHeartbeats 8000000 in
set_option maxRecDepth 100000 in
theorem spec_PolyBack.calls (k : Nat) (A0 : Option Addr) (c0 : Nat) (l0 : List (S32)) (r1 : List (S32)) (r2 : Bool) (w : World) (hr0 : Kd.C k32 w A0 l0.length l0) (hc0 : l0.length ≤ c0) (h : spec_PolyBack.f k l0 = some (r1, r2)) :
    Calls Try.prog 73 #[.slice A0 l0.length c0] w fun e w' => ∃ v0_ : Value, e = .returned (.tuple #[v0_, .bool r2]) ∧ Kd.R k32 32 w' w.heap.size (fun _ => True) v0_ r1 ∧ Below w.heap.size w w' := by
  have hu32 := Try.underlying32
  have HR0 := Aside0.mk hr0
  have HC0 := Aside0.mk hc0
  clear hr0 hc0
  have HB := Aside0.mk (Below.refl w.heap.size w)
  have H : ((spec_l31Points.f k l0).bind fun t150 => (if t150 = true then (if 0 < (l0.length : Int) then (spec_PolyBack.l0 k l0 (([(⟨(rd_T32 l0 0).f0, (rd_T32 l0 0).f1⟩ : S32)] : List (S32))) (wrap64 ((l0.length : Int) - 1))) else (none)) else (some ((([] : List (S32))), false)))) = some (r1, r2) := h
  clear h
  replace H := Option.bind_eq_some_iff.mp H
  obtain ⟨t150, A20, H⟩ := H
  replace H : (if t150 = true then (if 0 < (l0.length : Int) then (spec_PolyBack.l0 k l0 (([(⟨(rd_T32 l0 0).f0, (rd_T32 l0 0).f1⟩ : S32)] : List (S32))) (wrap64 ((l0.length : Int) - 1))) else (none)) else (some ((([] : List (S32))), false))) = some (r1, r2) := H
  have A2 := Aside0.mk A20
  clear A20
  by_cases c3 : t150 = true
  · subst c3
    have H1 : (if 0 < (l0.length : Int) then (spec_PolyBack.l0 k l0 (([(⟨(rd_T32 l0 0).f0, (rd_T32 l0 0).f1⟩ : S32)] : List (S32))) (wrap64 ((l0.length : Int) - 1))) else (none)) = some (r1, r2) := by rw [if_pos rfl] at H; exact H
    clear H
    have H := H1
    clear H1
    by_cases c4 : 0 < (l0.length : Int)
    · rw [if_pos c4] at H
      have c4b0 : decide (0 < (l0.length : Int)) = true := decide_eq_true c4
      have c4b1 : decide (0 < l0.length) = true := decide_eq_true (by omega)
      clear c4
      obtain ⟨y155, hy155⟩ : ∃ y_ : List (S32), y_ = (([(⟨(rd_T32 l0 0).f0, (rd_T32 l0 0).f1⟩ : S32)] : List (S32))) := ⟨_, rfl⟩
      replace H : (spec_PolyBack.l0 k l0 y155 (wrap64 ((l0.length : Int) - 1))) = some (r1, r2) := by first | (rw [hy155]; with_reducible exact H) | (have H2_ := (Option.bind_some _ _).symm.trans H; rw [hy155]; with_reducible exact H2_) | (have H2_ := (Option.bind_some _ _).symm.trans H; with_reducible exact H2_) | with_reducible exact H | (rw [hy155]; exact H) | exact H
      have Ny155 := Aside0.mk hy155
      clear hy155
      have H' := Aside0.mk H
      clear H
      go_enter Try.func73, Try.ntmps73
      go_wp2_with (first | ((with_reducible refine gate_callee (f := 45) rfl ?_); refine goesL_ (some 7) rfl rfl Try.func45 (by kernel_rfl) rfl #[.slice A0 l0.length c0] rfl qq2 ?_; (with_reducible refine (spec_l31Points.calls k _ _ l0 true _ ?side1 ?side2 A2.out).mono ?_); (case side1 => exact qq29); (case side2 => exact HC0.out); rintro e w5 ⟨rfl, hb⟩; refine ⟨_, rfl, ?_⟩; have n0_ := Aside0.mk (below_step qq1 hb); clear HB; have HB := n0_; clear n0_; (try clear hb); (try clear hb2); (try clear hk); (try clear hi); have p154 : 0 ≤ (0 : Int) := (by omega); have q154 : 0 < (l0.length : Int) := of_decide_eq_true qq18; obtain ⟨ad154, e154, hx154_0, hx154_1⟩ := at_T32 HR0.out 0 p154 q154; cases e154; have qi154 : (0 < l0.length) = True := eq_true (by omega); (try rw [show ((0 : Int)).toNat = 0 from rfl] at hx154_0); (try rw [show 0 * 2 = 0 from rfl] at hx154_0); (try rw [Addr.add_zero'] at hx154_0); (try rw [show ((0 : Int)).toNat = 0 from rfl] at hx154_1); (try rw [show 0 * 2 = 0 from rfl] at hx154_1); (try rw [Addr.add_zero'] at hx154_1); replace hx154_0 := (HB.out.cell (World.block_lt_of_cell? w _ hx154_0)).trans hx154_0; replace hx154_1 := (HB.out.cell (World.block_lt_of_cell? w _ hx154_1)).trans hx154_1; replace p154 := eq_true p154; replace q154 := eq_true q154) | ((with_reducible refine gate_dst (N := 13) rfl ?_); refine Kd.R_lit k32 _ 32 ?hg (N := 13) ?hd (xs := ([(⟨(rd_T32 l0 0).f0, (rd_T32 l0 0).f1⟩ : S32)] : List (S32))) (inner := [.int .i64 ((rd_T32 l0 0).f0), .int .i64 ((rd_T32 l0 0).f1)]) (ok := fun _ => True) (okp := fun _ => True) ?hr ?hp (fun _ hk => hk) trivial (Below.refl _ _) (Nat.le_refl _) (by simp) ?_; (case hd => rfl); (case hg => rfl); (case hr => exact qq16); (case hp => exact (Reps.c2 (show Kd.M k32 _ _ _ (⟨(rd_T32 l0 0).f0, (rd_T32 l0 0).f1⟩ : S32) [.int .i64 ((rd_T32 l0 0).f0), .int .i64 ((rd_T32 l0 0).f1)] from (k32_mkM _ _ _ (⟨(rd_T32 l0 0).f0, (rd_T32 l0 0).f1⟩ : S32) )) (Reps.none _ _))); intro v156 w6 ho7 hb hg_ hnew_; clear hg_ hnew_; (first | rw [← Ny155.out] at ho7 | (simp only [Int.reduceToNat] at ho7; rw [← Ny155.out] at ho7)); have n0_ := Aside0.mk (Kd.R_lower ho7 (below_size qq1)); have n1_ := Aside0.mk (below_step qq1 hb); clear HB; have HO157 := n0_; have HB := n1_; clear n0_ n1_; clear hb ho7))
      go_loopg [4, 5] k (fun kq v4 v5 w' => ∃ (x4_1 : List (S32)) (x5_1 : Int), v5 = .int .i64 x5_1 ∧ Aside0 (spec_PolyBack.l0 kq l0 x4_1 x5_1 = some (r1, r2)) ∧ Aside0 (kq ≤ k) ∧ Aside0 (Kd.R k32 32 w' w.heap.size (fun _ => True) v4 x4_1) ∧ Aside0 (Below w.heap.size w w'))
      case atStart => exact ⟨(y155), (wrap64 ((l0.length : Int) - 1)), qq13, H', ⟨Nat.le_refl _⟩, ⟨qq11 HO157.out⟩, ⟨qq1⟩⟩
      case round =>
        clear H'
        try clear p1
        try clear q1
        try clear hx1
        try clear qi1
        try clear c2
        try clear p2
        try clear c3
        try clear c4
        try clear c4b0
        try clear c4b1
        try clear p6
        try clear c7
        try clear hx154_0
        try clear hx154_1
        try clear p154
        try clear q154
        obtain ⟨x4_1, x5_1, rfl, HA, HK1, HO_4, HB⟩ := hrel
        cases gk with
        | zero => exact absurd HA.out (by simp [spec_PolyBack.l0])
        | succ k1 =>
          have H := HA.out
          clear HA
          simp only [spec_PolyBack.l0] at H
          by_cases c8 : x5_1 > 0
          · rw [if_pos c8] at H
            have c8b0 : decide (0 < x5_1) = true := decide_eq_true c8
            clear c8
            by_cases c9 : 0 ≤ x5_1
            · rw [if_pos c9] at H
              have c9b0 : decide (0 ≤ x5_1) = true := decide_eq_true c9
              clear c9
              by_cases c10 : x5_1 < (l0.length : Int)
              · rw [if_pos c10] at H
                have c10b0 : decide (x5_1 < (l0.length : Int)) = true := decide_eq_true c10
                clear c10
                by_cases c11 : x4_1.length < 8796093022208
                · rw [if_pos c11] at H
                  have LMc11 := Aside0.mk c11
                  clear c11
                  obtain ⟨y159, hy159⟩ : ∃ y_ : List (S32), y_ = (x4_1 ++ [(⟨(rd_T32 l0 x5_1).f0, (rd_T32 l0 x5_1).f1⟩ : S32)]) := ⟨_, rfl⟩
                  replace H : (spec_PolyBack.l0 k1 l0 y159 (wrap64 (x5_1 - 1))) = some (r1, r2) := by first | (rw [hy159]; with_reducible exact H) | (have H2_ := (Option.bind_some _ _).symm.trans H; rw [hy159]; with_reducible exact H2_) | (have H2_ := (Option.bind_some _ _).symm.trans H; with_reducible exact H2_) | with_reducible exact H | (rw [hy159]; exact H) | exact H
                  have Ny159 := Aside0.mk hy159
                  clear hy159
                  have H' := Aside0.mk H
                  clear H
                  have p158 : 0 ≤ (x5_1 : Int) := of_decide_eq_true qq18
                  have q158 : x5_1 < (l0.length : Int) := of_decide_eq_true qq18
                  obtain ⟨ad158, e158, hx158_0, hx158_1⟩ := at_T32 HR0.out x5_1 p158 q158
                  obtain rfl : ad154 = ad158 := (by injection e158)
                  replace hx158_0 := (HB.out.cell (World.block_lt_of_cell? w _ hx158_0)).trans hx158_0
                  replace hx158_1 := (HB.out.cell (World.block_lt_of_cell? w _ hx158_1)).trans hx158_1
                  replace p158 := eq_true p158
                  replace q158 := eq_true q158
                  go_wp2_with (first | ((with_reducible refine gate_builtin (b := .append) (xs := #[.tmp 21, .tmp 26]) rfl ?_); at_builtin; refine Kd.R_append k32 (w0 := w) w.heap.size rfl (.tmp 21) (.tmp 26) 23 32 (.agg #[(.int .i64 0), (.int .i64 0)]) 16 rfl Try.underlying23 info32 rfl (by decide) (by omega) u4 x4_1 (⟨(rd_T32 l0 x5_1).f0, (rd_T32 l0 x5_1).f1⟩ : S32) [.int .i64 ((rd_T32 l0 x5_1).f0), .int .i64 ((rd_T32 l0 x5_1).f1)] (fun _ => True) (fun _ => False) rfl rfl ?aP (fun _ hk => hk.elim) ?aF ?aO ?aB ?aS ?aL ?_; (case aP => exact k32_mkM _ _ _ (⟨(rd_T32 l0 x5_1).f0, (rd_T32 l0 x5_1).f1⟩ : S32)); (case aB => exact qq1); (case aF => exact (fun _ _ => trivial)); (case aO => exact (qq11 HO_4.out)); (case aS => exact (below_size qq1)); (case aL => have := LMc11.out; omega); intro v160 w12 ho hb hg hat; rw [← Ny159.out] at ho; have n0_ := Aside0.mk (hb); have n1_ := Aside0.mk (ho); clear HB; clear HO_4; have HB := n0_; have HO161 := n1_; clear n0_ n1_; clear ho hb hg hat))
                  go_roundg k1
                  case measure => have := HK1.out; omega
                  case rel => exact ⟨(y159), (wrap64 (x5_1 - 1)), qq13, H', ⟨by have := HK1.out; omega⟩, ⟨qq11 HO161.out⟩, ⟨qq1⟩⟩
                · rw [if_neg c11] at H
                  exact absurd H (by simp)
              · rw [if_neg c10] at H
                exact absurd H (by simp)
            · rw [if_neg c9] at H
              exact absurd H (by simp)
          · rw [if_neg c8] at H
            have c8b0 : decide (0 < x5_1) = false := decide_eq_false c8
            clear c8
            simp only [Option.some.injEq, Prod.mk.injEq] at H
            obtain ⟨rfl, rfl⟩ := H
            go_wp2
            go_ret2
            exact ⟨_, qq12, qq11 HO_4.out, qq1⟩
    · rw [if_neg c4] at H
      exact absurd H (by simp)
  · replace c3 := Bool.eq_false_iff.mpr c3
    subst c3
    have H1 : (some ((([] : List (S32))), false)) = some (r1, r2) := by rw [if_neg (show ¬ (false = true) by decide)] at H; exact H
    clear H
    have H := H1
    clear H1
    obtain ⟨y151, hy151⟩ : ∃ y_ : List (S32), y_ = (([] : List (S32))) := ⟨_, rfl⟩
    replace H : (some (y151, false)) = some (r1, r2) := by first | (rw [hy151]; with_reducible exact H) | (have H2_ := (Option.bind_some _ _).symm.trans H; rw [hy151]; with_reducible exact H2_) | (have H2_ := (Option.bind_some _ _).symm.trans H; with_reducible exact H2_) | with_reducible exact H | (rw [hy151]; exact H) | exact H
    have Ny151 := Aside0.mk hy151
    clear hy151
    simp only [Option.some.injEq, Prod.mk.injEq] at H
    obtain ⟨rfl, rfl⟩ := H
    go_enter Try.func73, Try.ntmps73
    go_wp2_with (first | ((with_reducible refine gate_callee (f := 45) rfl ?_); refine goesL_ (some 7) rfl rfl Try.func45 (by kernel_rfl) rfl #[.slice A0 l0.length c0] rfl qq2 ?_; (with_reducible refine (spec_l31Points.calls k _ _ l0 false _ ?side1 ?side2 A2.out).mono ?_); (case side1 => exact qq29); (case side2 => exact HC0.out); rintro e w13 ⟨rfl, hb⟩; refine ⟨_, rfl, ?_⟩; have n0_ := Aside0.mk (below_step qq1 hb); clear HB; have HB := n0_; clear n0_; (try clear hb); (try clear hb2); (try clear hk); (try clear hi)) | ((with_reducible refine gate_dst (N := 9) rfl ?_); refine Kd.R_lit k32 _ 32 ?hg (N := 9) ?hd (xs := ([] : List (S32))) (inner := []) (ok := fun _ => True) (okp := fun _ => True) ?hr ?hp (fun _ hk => hk) trivial (Below.refl _ _) (Nat.le_refl _) (by simp) ?_; (case hd => rfl); (case hg => rfl); (case hr => exact qq16); (case hp => exact (Reps.none _ _)); intro v152 w14 ho15 hb hg_ hnew_; clear hg_ hnew_; (first | rw [← Ny151.out] at ho15 | (simp only [Int.reduceToNat] at ho15; rw [← Ny151.out] at ho15)); have n0_ := Aside0.mk (Kd.R_lower ho15 (below_size qq1)); have n1_ := Aside0.mk (below_step qq1 hb); clear HB; have HO153 := n0_; have HB := n1_; clear n0_ n1_; clear hb ho15))
    go_ret2
    exact ⟨_, qq12, qq11 HO153.out, qq1⟩

end Go.Proofs.Ytgdhgncdpmalcaa.Q
namespace Go.Proofs.Ytgdhgncdpmalcaa.Q
open Go.RowKit Go.Proofs.YtgdhgncdpmalcaaW.PrintWords Go.Proofs.YtgdhgncdpmalcaaW.PrintLast Go.Proofs.YtgdhgncdpmalcaaW.PrintMore
attribute [local go_sem] max2_int min2_int max_two min_two max_three min_three max_four min_four
set_option linter.unusedVariables false
set_option linter.unusedSimpArgs false

/-! ### spec_l92Poly: function 41 -/
def spec_l92Poly.l0 : Nat → List (S32) → Int → Int → List Int → Int → Option ((List (S32)) × Int)
  | 0, _, _, _, _, _ => none
  | k + 1, x3, x4, x5, x1000, x1001 => if x5 < x4 then ((spec_l91Point.f k x1000 x1001).bind fun bt169 => (if x3.length < 8796093022208 then (spec_l92Poly.l0 k (x3 ++ [(⟨bt169.1, bt169.2.1⟩ : S32)]) x4 (wrap64 (x5 + 1)) x1000 bt169.2.2) else (none))) else (some (x3, x1001))
def spec_l92Poly.f (k : Nat) (s0_0 : List Int) (s0_1 : Int) : Option ((List (S32)) × Int) := (spec_l6Rd_pick.f k s0_0 s0_1 8).bind fun bt162 => (if bt162.1 = 0 then ((spec_l6Rd_pick.f k s0_0 bt162.2 6).bind fun bt167 => (spec_l92Poly.l0 k (([] : List (S32))) bt167.1 0 s0_0 bt167.2)) else (if bt162.1 = 1 then ((spec_l92Box.f k s0_0 bt162.2).bind fun bt175 => (some (bt175.1, bt175.2))) else (if bt162.1 = 2 then ((spec_l92Box.f k s0_0 bt162.2).bind fun bt179 => (some (bt179.1, bt179.2))) else (if bt162.1 = 3 then ((spec_l92Box.f k s0_0 bt162.2).bind fun bt183 => (some (bt183.1, bt183.2))) else ((spec_l92Star.f k s0_0 bt162.2).bind fun bt187 => ((spec_l6Rd_pick.f k s0_0 bt187.2 5).bind fun bt191 => (if bt191.1 = 0 then ((spec_PolyBack.f k bt187.1).bind fun bt193 => (some (bt193.1, bt191.2))) else (some (bt187.1, bt191.2)))))))))
set_option maxHeartbeats 8000000 in
set_option maxRecDepth 100000 in
theorem spec_l92Poly.calls (k : Nat) (g : Nat) (s0_0 : List Int) (s0_1 : Int) (r1 : List (S32)) (r2 : Int) (w0 w : World) (hI : IsS81 w0 w g s0_0 s0_1) (hB : Below w0.heap.size w0 w) (h : spec_l92Poly.f k s0_0 s0_1 = some (r1, r2)) :
    Calls Try.prog 41 #[.pointer (some ⟨g, 0, none⟩)] w fun e w' => ∃ v0_ : Value, e = .returned (v0_) ∧ Kd.Q k32 32 w' w.heap.size (fun _ => True) v0_ r1 ∧ IsS81 w0 w' g s0_0 r2 ∧ Below w0.heap.size w0 w' ∧ KeepBut w w' g none := by
  have HI0 := Aside0.mk hI
  have HK := Aside0.mk (KeepBut.refl w g none)
  have HL := Aside0.mk hB.size
  clear hI
  have HW0 := Aside0.mk hB.size
  have HB := Aside0.mk hB
  clear hB
  have H : ((spec_l6Rd_pick.f k s0_0 s0_1 8).bind fun bt162 => (if bt162.1 = 0 then ((spec_l6Rd_pick.f k s0_0 bt162.2 6).bind fun bt167 => (spec_l92Poly.l0 k (([] : List (S32))) bt167.1 0 s0_0 bt167.2)) else (if bt162.1 = 1 then ((spec_l92Box.f k s0_0 bt162.2).bind fun bt175 => (some (bt175.1, bt175.2))) else (if bt162.1 = 2 then ((spec_l92Box.f k s0_0 bt162.2).bind fun bt179 => (some (bt179.1, bt179.2))) else (if bt162.1 = 3 then ((spec_l92Box.f k s0_0 bt162.2).bind fun bt183 => (some (bt183.1, bt183.2))) else ((spec_l92Star.f k s0_0 bt162.2).bind fun bt187 => ((spec_l6Rd_pick.f k s0_0 bt187.2 5).bind fun bt191 => (if bt191.1 = 0 then ((spec_PolyBack.f k bt187.1).bind fun bt193 => (some (bt193.1, bt191.2))) else (some (bt187.1, bt191.2)))))))))) = some (r1, r2) := h
  clear h
  replace H := Option.bind_eq_some_iff.mp H
  obtain ⟨⟨t162, t163⟩, A20, H⟩ := H
  replace H : (if t162 = 0 then ((spec_l6Rd_pick.f k s0_0 t163 6).bind fun bt167 => (spec_l92Poly.l0 k (([] : List (S32))) bt167.1 0 s0_0 bt167.2)) else (if t162 = 1 then ((spec_l92Box.f k s0_0 t163).bind fun bt175 => (some (bt175.1, bt175.2))) else (if t162 = 2 then ((spec_l92Box.f k s0_0 t163).bind fun bt179 => (some (bt179.1, bt179.2))) else (if t162 = 3 then ((spec_l92Box.f k s0_0 t163).bind fun bt183 => (some (bt183.1, bt183.2))) else ((spec_l92Star.f k s0_0 t163).bind fun bt187 => ((spec_l6Rd_pick.f k s0_0 bt187.2 5).bind fun bt191 => (if bt191.1 = 0 then ((spec_PolyBack.f k bt187.1).bind fun bt193 => (some (bt193.1, bt191.2))) else (some (bt187.1, bt191.2))))))))) = some (r1, r2) := H
  have A2 := Aside0.mk A20
  clear A20
  by_cases c3 : t162 = 0
  · rw [if_pos c3] at H
    have c3b0 : (t162 == 0) = true := beq_iff_eq.mpr c3
    have c3b1 : (t162 != 0) = false := bne_eq_false_iff_eq.mpr c3
    clear c3
    obtain ⟨y164, hy164⟩ : ∃ y_ : List (S32), y_ = (([] : List (S32))) := ⟨_, rfl⟩
    replace H : ((spec_l6Rd_pick.f k s0_0 t163 6).bind fun bt167 => (spec_l92Poly.l0 k y164 bt167.1 0 s0_0 bt167.2)) = some (r1, r2) := by first | (rw [hy164]; with_reducible exact H) | (have H2_ := (Option.bind_some _ _).symm.trans H; rw [hy164]; with_reducible exact H2_) | (have H2_ := (Option.bind_some _ _).symm.trans H; with_reducible exact H2_) | with_reducible exact H | (rw [hy164]; exact H) | exact H
    have Ny164 := Aside0.mk hy164
    clear hy164
    replace H := Option.bind_eq_some_iff.mp H
    obtain ⟨⟨t167, t168⟩, A40, H⟩ := H
    replace H : (spec_l92Poly.l0 k y164 t167 0 s0_0 t168) = some (r1, r2) := H
    have A4 := Aside0.mk A40
    clear A40
    have H' := Aside0.mk H
    clear H
    go_enter Try.func41, Try.ntmps41
    go_wp2_with (first | ((with_reducible refine gate_callee (f := 48) rfl ?_); refine goesL_ (some 10) rfl rfl Try.func48 (by kernel_rfl) rfl #[.pointer (some ⟨g, 0, none⟩), .int .i64 8] rfl qq2 ?_; (with_reducible refine (spec_l6Rd_pick.calls k g s0_0 s0_1 8 t162 t163 w0 _ ?side1 ?side2 A2.out).mono ?_); (case side1 => exact qq8); (case side2 => exact qq7); rintro e w5 ⟨rfl, hi, hb, hk⟩; refine ⟨_, rfl, ?_⟩; have n0_ := Aside0.mk (KeepBut.trans qq4 hk (.inl rfl)); have n1_ := Aside0.mk (hb); have n2_ := Aside0.mk (hi); clear HK; clear HB; clear HI0; have HK := n0_; have HB := n1_; have HI0 := n2_; clear n0_ n1_ n2_; (try clear hb); (try clear hb2); (try clear hk); (try clear hi)) | ((with_reducible refine gate_dst (N := 13) rfl ?_); refine Kd.R_lit k32 _ 32 ?hg (N := 13) ?hd (xs := ([] : List (S32))) (inner := []) (ok := fun _ => True) (okp := fun _ => True) ?hr ?hp (fun _ hk => hk) trivial (Below.refl _ _) (Nat.le_refl _) (by simp) ?_; (case hd => rfl); (case hg => rfl); (case hr => exact qq16); (case hp => exact (Reps.none _ _)); intro v165 w6 ho7 hb hg_ hnew_; clear hg_ hnew_; (first | rw [← Ny164.out] at ho7 | (simp only [Int.reduceToNat] at ho7; rw [← Ny164.out] at ho7)); have n0_ := Aside0.mk (Kd.R_lower ho7 (keep_size (w := w) (g := g) (row := none) qq4)); have n1_ := Aside0.mk (IsS81.below qq8 hb); have n2_ := Aside0.mk (KeepBut.trans qq4 (KeepBut.of_below hb g none) (.inl rfl)); have n3_ := Aside0.mk (below_step qq7 hb); clear HI0; clear HK; clear HB; have HO166 := n0_; have HI0 := n1_; have HK := n2_; have HB := n3_; clear n0_ n1_ n2_ n3_; clear hb ho7) | ((with_reducible refine gate_callee (f := 48) rfl ?_); refine goesL_ (some 15) rfl rfl Try.func48 (by kernel_rfl) rfl #[.pointer (some ⟨g, 0, none⟩), .int .i64 6] rfl qq2 ?_; (with_reducible refine (spec_l6Rd_pick.calls k g s0_0 t163 6 t167 t168 w0 _ ?side1 ?side2 A4.out).mono ?_); (case side1 => exact qq8); (case side2 => exact qq7); rintro e w8 ⟨rfl, hi, hb, hk⟩; refine ⟨_, rfl, ?_⟩; have n0_ := Aside0.mk (Kd.R_mono (Kd.R_keep (IsS81.apart (show IsS81 w0 _ g s0_0 t163 from by repeat (first | (with_reducible first | exact HI0.out | apply IsS81.alloc | apply IsS81.drewN | apply IsS81.drew | apply IsS81.set_1) | exact HI0.out)) (qq11 HO166.out) (by decide)) hk (fun _ h => h.2)) (fun _ h => h.1)); have n1_ := Aside0.mk (KeepBut.trans qq4 hk (.inl rfl)); have n2_ := Aside0.mk (hb); have n3_ := Aside0.mk (hi); clear HO166; clear HK; clear HB; clear HI0; have HO166 := n0_; have HK := n1_; have HB := n2_; have HI0 := n3_; clear n0_ n1_ n2_ n3_; (try clear hb); (try clear hb2); (try clear hk); (try clear hi)))
    go_loopg [3, 5] k (fun kq v3 v5 w' => ∃ (x3_1 : List (S32)) (x5_1 : Int) (x1001_1 : Int), v5 = .int .i64 x5_1 ∧ Aside0 (spec_l92Poly.l0 kq x3_1 t167 x5_1 s0_0 x1001_1 = some (r1, r2)) ∧ Aside0 (kq ≤ k) ∧ Aside0 (Kd.R k32 32 w' w.heap.size (fun _ => True) v3 x3_1) ∧ Aside0 (IsS81 w0 w' g s0_0 x1001_1) ∧ Aside0 (KeepBut w w' g none) ∧ Aside0 (Below w0.heap.size w0 w'))
    case atStart => exact ⟨(y164), (0), (t168), qq13, H', ⟨Nat.le_refl _⟩, ⟨qq11 HO166.out⟩, ⟨qq8⟩, ⟨qq4⟩, ⟨qq7⟩⟩
    case round =>
      clear H'
      try clear p2
      try clear c3
      try clear c3b0
      try clear c3b1
      try clear c4
      obtain ⟨x3_1, x5_1, x1001_1, rfl, HA, HK1, HO_3, HI0, HK, HB⟩ := hrel
      cases gk with
      | zero => exact absurd HA.out (by simp [spec_l92Poly.l0])
      | succ k1 =>
        have H := HA.out
        clear HA
        simp only [spec_l92Poly.l0] at H
        by_cases c9 : x5_1 < t167
        · rw [if_pos c9] at H
          have c9b0 : decide (x5_1 < t167) = true := decide_eq_true c9
          clear c9
          replace H := Option.bind_eq_some_iff.mp H
          obtain ⟨⟨t169, t170, t171⟩, A100, H⟩ := H
          replace H : (if x3_1.length < 8796093022208 then (spec_l92Poly.l0 k1 (x3_1 ++ [(⟨t169, t170⟩ : S32)]) t167 (wrap64 (x5_1 + 1)) s0_0 t171) else (none)) = some (r1, r2) := H
          have A10 := Aside0.mk A100
          clear A100
          by_cases c11 : x3_1.length < 8796093022208
          · rw [if_pos c11] at H
            have LMc11 := Aside0.mk c11
            clear c11
            obtain ⟨y172, hy172⟩ : ∃ y_ : List (S32), y_ = (x3_1 ++ [(⟨t169, t170⟩ : S32)]) := ⟨_, rfl⟩
            replace H : (spec_l92Poly.l0 k1 y172 t167 (wrap64 (x5_1 + 1)) s0_0 t171) = some (r1, r2) := by first | (rw [hy172]; with_reducible exact H) | (have H2_ := (Option.bind_some _ _).symm.trans H; rw [hy172]; with_reducible exact H2_) | (have H2_ := (Option.bind_some _ _).symm.trans H; with_reducible exact H2_) | with_reducible exact H | (rw [hy172]; exact H) | exact H
            have Ny172 := Aside0.mk hy172
            clear hy172
            have H' := Aside0.mk H
            clear H
            go_wp2_with (first | ((with_reducible refine gate_callee (f := 55) rfl ?_); refine goesL_ (some 23) rfl rfl Try.func55 (by kernel_rfl) rfl #[.pointer (some ⟨g, 0, none⟩)] rfl qq2 ?_; (with_reducible refine (spec_l91Point.calls k1 g s0_0 x1001_1 t169 t170 t171 w0 _ ?side1 ?side2 A10.out).mono ?_); (case side1 => exact qq8); (case side2 => exact qq7); rintro e w12 ⟨rfl, hi, hb, hk⟩; refine ⟨_, rfl, ?_⟩; have n0_ := Aside0.mk (Kd.R_mono (Kd.R_keep (IsS81.apart (show IsS81 w0 _ g s0_0 x1001_1 from by repeat (first | (with_reducible first | exact HI0.out | apply IsS81.alloc | apply IsS81.drewN | apply IsS81.drew | apply IsS81.set_1) | exact HI0.out)) (qq11 HO_3.out) (by decide)) hk (fun _ h => h.2)) (fun _ h => h.1)); have n1_ := Aside0.mk (KeepBut.trans qq4 hk (.inl rfl)); have n2_ := Aside0.mk (hb); have n3_ := Aside0.mk (hi); clear HO_3; clear HK; clear HB; clear HI0; have HO_3 := n0_; have HK := n1_; have HB := n2_; have HI0 := n3_; clear n0_ n1_ n2_ n3_; (try clear hb); (try clear hb2); (try clear hk); (try clear hi)) | ((with_reducible refine gate_builtin (b := .append) (xs := #[.tmp 21, .tmp 24]) rfl ?_); at_builtin; refine Kd.R_append k32 w.heap.size rfl (.tmp 21) (.tmp 24) 23 32 (.agg #[(.int .i64 0), (.int .i64 0)]) 16 rfl Try.underlying23 info32 rfl (by decide) (by omega) u3 x3_1 (⟨t169, t170⟩ : S32) [.int .i64 t169, .int .i64 t170] (fun _ => True) (fun _ => False) rfl rfl ?aP (fun _ hk => hk.elim) ?aF ?aO (Below.refl _ _) ?aS ?aL ?_; (case aP => exact k32_mkM _ _ _ (⟨t169, t170⟩ : S32)); (case aF => exact (fun _ _ => trivial)); (case aO => exact (qq11 HO_3.out)); (case aS => exact qq64); (case aL => have := LMc11.out; omega); intro v173 w13 ho hb hg hat; rw [← Ny172.out] at ho; have n0_ := Aside0.mk (IsS81.grown qq8 hg (IsS81.own_ne HI0.out HO_3.out (by decide))); have n1_ := Aside0.mk (below_weaken qq7 HL.out hb); have n2_ := Aside0.mk (KeepBut.trans qq4 (KeepBut.of_grown hg g) (Kd.R_base2 HO_3.out)); have n3_ := Aside0.mk (ho); clear HI0; clear HB; clear HK; clear HO_3; have HI0 := n0_; have HB := n1_; have HK := n2_; have HO174 := n3_; clear n0_ n1_ n2_ n3_; clear ho hb hg hat))
            go_roundg k1
            case measure => have := HK1.out; omega
            case rel => exact ⟨(y172), (wrap64 (x5_1 + 1)), (t171), qq13, H', ⟨by have := HK1.out; omega⟩, ⟨qq11 HO174.out⟩, ⟨qq8⟩, ⟨qq4⟩, ⟨qq7⟩⟩
          · rw [if_neg c11] at H
            exact absurd H (by simp)
        · rw [if_neg c9] at H
          have c9b0 : decide (x5_1 < t167) = false := decide_eq_false c9
          clear c9
          simp only [Option.some.injEq, Prod.mk.injEq] at H
          obtain ⟨rfl, rfl⟩ := H
          go_wp2
          go_ret
          exact ⟨_, qq12, Kd.Q_of_R (qq11 HO_3.out), qq8, qq7, qq4⟩
  · rw [if_neg c3] at H
    have c3b0 : (t162 == 0) = false := beq_eq_false_iff_ne.mpr c3
    have c3b1 : (t162 != 0) = true := bne_iff_ne.mpr c3
    by_cases c14 : t162 = 1
    · rw [if_pos c14] at H
      have c14b0 : (t162 == 1) = true := beq_iff_eq.mpr c14
      have c14b1 : (t162 != 1) = false := bne_eq_false_iff_eq.mpr c14
      clear c14
      replace H := Option.bind_eq_some_iff.mp H
      obtain ⟨⟨t175, t178⟩, A150, H⟩ := H
      replace H : (some (t175, t178)) = some (r1, r2) := H
      have A15 := Aside0.mk A150
      clear A150
      simp only [Option.some.injEq, Prod.mk.injEq] at H
      obtain ⟨rfl, rfl⟩ := H
      go_enter Try.func41, Try.ntmps41
      go_wp2_with (first | ((with_reducible refine gate_callee (f := 48) rfl ?_); refine goesL_ (some 10) rfl rfl Try.func48 (by kernel_rfl) rfl #[.pointer (some ⟨g, 0, none⟩), .int .i64 8] rfl qq2 ?_; (with_reducible refine (spec_l6Rd_pick.calls k g s0_0 s0_1 8 t162 t163 w0 _ ?side1 ?side2 A2.out).mono ?_); (case side1 => exact qq8); (case side2 => exact qq7); rintro e w16 ⟨rfl, hi, hb, hk⟩; refine ⟨_, rfl, ?_⟩; have n0_ := Aside0.mk (KeepBut.trans qq4 hk (.inl rfl)); have n1_ := Aside0.mk (hb); have n2_ := Aside0.mk (hi); clear HK; clear HB; clear HI0; have HK := n0_; have HB := n1_; have HI0 := n2_; clear n0_ n1_ n2_; (try clear hb); (try clear hb2); (try clear hk); (try clear hi)) | ((with_reducible refine gate_callee (f := 59) rfl ?_); refine goesL_ (some 32) rfl rfl Try.func59 (by kernel_rfl) rfl #[.pointer (some ⟨g, 0, none⟩)] rfl qq2 ?_; (with_reducible refine (spec_l92Box.calls k g s0_0 t163 t175 t178 w0 _ ?side1 ?side2 A15.out).mono ?_); (case side1 => exact qq8); (case side2 => exact qq7); rintro e w17 ⟨v176, rfl, ho0, hi, hb, hk⟩; refine ⟨_, rfl, ?_⟩; have n0_ := Aside0.mk (Kd.Q_lower ho0 (keep_size (w := w) (g := g) (row := none) qq4)); have n1_ := Aside0.mk (KeepBut.trans qq4 hk (.inl rfl)); have n2_ := Aside0.mk (hb); have n3_ := Aside0.mk (hi); clear HK; clear HB; clear HI0; have HO177 := n0_; have HK := n1_; have HB := n2_; have HI0 := n3_; clear n0_ n1_ n2_ n3_; (try clear hb); (try clear hb2); (try clear hk); (try clear hi); (try clear ho0)))
      go_ret
      exact ⟨_, qq12, qq24 HO177.out, qq8, qq7, qq4⟩
    · rw [if_neg c14] at H
      have c14b0 : (t162 == 1) = false := beq_eq_false_iff_ne.mpr c14
      have c14b1 : (t162 != 1) = true := bne_iff_ne.mpr c14
      by_cases c18 : t162 = 2
      · rw [if_pos c18] at H
        have c18b0 : (t162 == 2) = true := beq_iff_eq.mpr c18
        have c18b1 : (t162 != 2) = false := bne_eq_false_iff_eq.mpr c18
        clear c18
        replace H := Option.bind_eq_some_iff.mp H
        obtain ⟨⟨t179, t182⟩, A190, H⟩ := H
        replace H : (some (t179, t182)) = some (r1, r2) := H
        have A19 := Aside0.mk A190
        clear A190
        simp only [Option.some.injEq, Prod.mk.injEq] at H
        obtain ⟨rfl, rfl⟩ := H
        go_enter Try.func41, Try.ntmps41
        go_wp2_with (first | ((with_reducible refine gate_callee (f := 48) rfl ?_); refine goesL_ (some 10) rfl rfl Try.func48 (by kernel_rfl) rfl #[.pointer (some ⟨g, 0, none⟩), .int .i64 8] rfl qq2 ?_; (with_reducible refine (spec_l6Rd_pick.calls k g s0_0 s0_1 8 t162 t163 w0 _ ?side1 ?side2 A2.out).mono ?_); (case side1 => exact qq8); (case side2 => exact qq7); rintro e w20 ⟨rfl, hi, hb, hk⟩; refine ⟨_, rfl, ?_⟩; have n0_ := Aside0.mk (KeepBut.trans qq4 hk (.inl rfl)); have n1_ := Aside0.mk (hb); have n2_ := Aside0.mk (hi); clear HK; clear HB; clear HI0; have HK := n0_; have HB := n1_; have HI0 := n2_; clear n0_ n1_ n2_; (try clear hb); (try clear hb2); (try clear hk); (try clear hi)) | ((with_reducible refine gate_callee (f := 59) rfl ?_); refine goesL_ (some 32) rfl rfl Try.func59 (by kernel_rfl) rfl #[.pointer (some ⟨g, 0, none⟩)] rfl qq2 ?_; (with_reducible refine (spec_l92Box.calls k g s0_0 t163 t179 t182 w0 _ ?side1 ?side2 A19.out).mono ?_); (case side1 => exact qq8); (case side2 => exact qq7); rintro e w21 ⟨v180, rfl, ho0, hi, hb, hk⟩; refine ⟨_, rfl, ?_⟩; have n0_ := Aside0.mk (Kd.Q_lower ho0 (keep_size (w := w) (g := g) (row := none) qq4)); have n1_ := Aside0.mk (KeepBut.trans qq4 hk (.inl rfl)); have n2_ := Aside0.mk (hb); have n3_ := Aside0.mk (hi); clear HK; clear HB; clear HI0; have HO181 := n0_; have HK := n1_; have HB := n2_; have HI0 := n3_; clear n0_ n1_ n2_ n3_; (try clear hb); (try clear hb2); (try clear hk); (try clear hi); (try clear ho0)))
        go_ret
        exact ⟨_, qq12, qq24 HO181.out, qq8, qq7, qq4⟩
      · rw [if_neg c18] at H
        have c18b0 : (t162 == 2) = false := beq_eq_false_iff_ne.mpr c18
        have c18b1 : (t162 != 2) = true := bne_iff_ne.mpr c18
        by_cases c22 : t162 = 3
        · rw [if_pos c22] at H
          have c22b0 : (t162 == 3) = true := beq_iff_eq.mpr c22
          have c22b1 : (t162 != 3) = false := bne_eq_false_iff_eq.mpr c22
          clear c22
          replace H := Option.bind_eq_some_iff.mp H
          obtain ⟨⟨t183, t186⟩, A230, H⟩ := H
          replace H : (some (t183, t186)) = some (r1, r2) := H
          have A23 := Aside0.mk A230
          clear A230
          simp only [Option.some.injEq, Prod.mk.injEq] at H
          obtain ⟨rfl, rfl⟩ := H
          go_enter Try.func41, Try.ntmps41
          go_wp2_with (first | ((with_reducible refine gate_callee (f := 48) rfl ?_); refine goesL_ (some 10) rfl rfl Try.func48 (by kernel_rfl) rfl #[.pointer (some ⟨g, 0, none⟩), .int .i64 8] rfl qq2 ?_; (with_reducible refine (spec_l6Rd_pick.calls k g s0_0 s0_1 8 t162 t163 w0 _ ?side1 ?side2 A2.out).mono ?_); (case side1 => exact qq8); (case side2 => exact qq7); rintro e w24 ⟨rfl, hi, hb, hk⟩; refine ⟨_, rfl, ?_⟩; have n0_ := Aside0.mk (KeepBut.trans qq4 hk (.inl rfl)); have n1_ := Aside0.mk (hb); have n2_ := Aside0.mk (hi); clear HK; clear HB; clear HI0; have HK := n0_; have HB := n1_; have HI0 := n2_; clear n0_ n1_ n2_; (try clear hb); (try clear hb2); (try clear hk); (try clear hi)) | ((with_reducible refine gate_callee (f := 59) rfl ?_); refine goesL_ (some 32) rfl rfl Try.func59 (by kernel_rfl) rfl #[.pointer (some ⟨g, 0, none⟩)] rfl qq2 ?_; (with_reducible refine (spec_l92Box.calls k g s0_0 t163 t183 t186 w0 _ ?side1 ?side2 A23.out).mono ?_); (case side1 => exact qq8); (case side2 => exact qq7); rintro e w25 ⟨v184, rfl, ho0, hi, hb, hk⟩; refine ⟨_, rfl, ?_⟩; have n0_ := Aside0.mk (Kd.Q_lower ho0 (keep_size (w := w) (g := g) (row := none) qq4)); have n1_ := Aside0.mk (KeepBut.trans qq4 hk (.inl rfl)); have n2_ := Aside0.mk (hb); have n3_ := Aside0.mk (hi); clear HK; clear HB; clear HI0; have HO185 := n0_; have HK := n1_; have HB := n2_; have HI0 := n3_; clear n0_ n1_ n2_ n3_; (try clear hb); (try clear hb2); (try clear hk); (try clear hi); (try clear ho0)))
          go_ret
          exact ⟨_, qq12, qq24 HO185.out, qq8, qq7, qq4⟩
        · rw [if_neg c22] at H
          have c22b0 : (t162 == 3) = false := beq_eq_false_iff_ne.mpr c22
          have c22b1 : (t162 != 3) = true := bne_iff_ne.mpr c22
          replace H := Option.bind_eq_some_iff.mp H
          obtain ⟨⟨t187, t190⟩, A260, H⟩ := H
          replace H : ((spec_l6Rd_pick.f k s0_0 t190 5).bind fun bt191 => (if bt191.1 = 0 then ((spec_PolyBack.f k t187).bind fun bt193 => (some (bt193.1, bt191.2))) else (some (t187, bt191.2)))) = some (r1, r2) := H
          have A26 := Aside0.mk A260
          clear A260
          replace H := Option.bind_eq_some_iff.mp H
          obtain ⟨⟨t191, t192⟩, A270, H⟩ := H
          replace H : (if t191 = 0 then ((spec_PolyBack.f k t187).bind fun bt193 => (some (bt193.1, t192))) else (some (t187, t192))) = some (r1, r2) := H
          have A27 := Aside0.mk A270
          clear A270
          by_cases c28 : t191 = 0
          · rw [if_pos c28] at H
            have c28b0 : (t191 == 0) = true := beq_iff_eq.mpr c28
            have c28b1 : (t191 != 0) = false := bne_eq_false_iff_eq.mpr c28
            clear c28
            replace H := Option.bind_eq_some_iff.mp H
            obtain ⟨⟨t193, t194⟩, A290, H⟩ := H
            replace H : (some (t193, t192)) = some (r1, r2) := H
            have A29 := Aside0.mk A290
            clear A290
            simp only [Option.some.injEq, Prod.mk.injEq] at H
            obtain ⟨rfl, rfl⟩ := H
            go_enter Try.func41, Try.ntmps41
            go_wp2_with (first | ((with_reducible refine gate_callee (f := 48) rfl ?_); refine goesL_ (some 10) rfl rfl Try.func48 (by kernel_rfl) rfl #[.pointer (some ⟨g, 0, none⟩), .int .i64 8] rfl qq2 ?_; (with_reducible refine (spec_l6Rd_pick.calls k g s0_0 s0_1 8 t162 t163 w0 _ ?side1 ?side2 A2.out).mono ?_); (case side1 => exact qq8); (case side2 => exact qq7); rintro e w30 ⟨rfl, hi, hb, hk⟩; refine ⟨_, rfl, ?_⟩; have n0_ := Aside0.mk (KeepBut.trans qq4 hk (.inl rfl)); have n1_ := Aside0.mk (hb); have n2_ := Aside0.mk (hi); clear HK; clear HB; clear HI0; have HK := n0_; have HB := n1_; have HI0 := n2_; clear n0_ n1_ n2_; (try clear hb); (try clear hb2); (try clear hk); (try clear hi)) | ((with_reducible refine gate_callee (f := 72) rfl ?_); refine goesL_ (some 34) rfl rfl Try.func72 (by kernel_rfl) rfl #[.pointer (some ⟨g, 0, none⟩)] rfl qq2 ?_; (with_reducible refine (spec_l92Star.calls k g s0_0 t163 t187 t190 w0 _ ?side1 ?side2 A26.out).mono ?_); (case side1 => exact qq8); (case side2 => exact qq7); rintro e w31 ⟨v188, rfl, ho0, hi, hb, hk⟩; refine ⟨_, rfl, ?_⟩; have n0_ := Aside0.mk (Kd.R_lower ho0 (keep_size (w := w) (g := g) (row := none) qq4)); have n1_ := Aside0.mk (KeepBut.trans qq4 hk (.inl rfl)); have n2_ := Aside0.mk (hb); have n3_ := Aside0.mk (hi); clear HK; clear HB; clear HI0; have HO189 := n0_; have HK := n1_; have HB := n2_; have HI0 := n3_; clear n0_ n1_ n2_ n3_; (try clear hb); (try clear hb2); (try clear hk); (try clear hi); (try clear ho0)) | ((with_reducible refine gate_callee (f := 48) rfl ?_); refine goesL_ (some 36) rfl rfl Try.func48 (by kernel_rfl) rfl #[.pointer (some ⟨g, 0, none⟩), .int .i64 5] rfl qq2 ?_; (with_reducible refine (spec_l6Rd_pick.calls k g s0_0 t190 5 t191 t192 w0 _ ?side1 ?side2 A27.out).mono ?_); (case side1 => exact qq8); (case side2 => exact qq7); rintro e w32 ⟨rfl, hi, hb, hk⟩; refine ⟨_, rfl, ?_⟩; have n0_ := Aside0.mk (Kd.R_mono (Kd.R_keep (IsS81.apart (show IsS81 w0 _ g s0_0 t190 from by repeat (first | (with_reducible first | exact HI0.out | apply IsS81.alloc | apply IsS81.drewN | apply IsS81.drew | apply IsS81.set_1) | exact HI0.out)) (qq11 HO189.out) (by decide)) hk (fun _ h => h.2)) (fun _ h => h.1)); have n1_ := Aside0.mk (KeepBut.trans qq4 hk (.inl rfl)); have n2_ := Aside0.mk (hb); have n3_ := Aside0.mk (hi); clear HO189; clear HK; clear HB; clear HI0; have HO189 := n0_; have HK := n1_; have HB := n2_; have HI0 := n3_; clear n0_ n1_ n2_ n3_; (try clear hb); (try clear hb2); (try clear hk); (try clear hi); obtain ⟨Ao33, co33, eo33⟩ := Kd.R_slice HO189.out; subst eo33) | ((with_reducible refine gate_callee (f := 73) rfl ?_); refine goesL_ (some 40) rfl rfl Try.func73 (by kernel_rfl) rfl #[.slice Ao33 t187.length co33] rfl qq2 ?_; (with_reducible refine (spec_PolyBack.calls k _ _ t187 t193 t194 _ ?side1 ?side2 A29.out).mono ?_); (case side1 => repeat (first | exact (Kd.R_reads' HO189.out).2.2 | (with_reducible refine Kd.C_alloc ?_ _) | (with_reducible refine Kd.C_drewN ?_ _) | (with_reducible refine Kd.C_drew ?_))); (case side2 => exact (Kd.R_reads' HO189.out).2.1); rintro e w34 ⟨v195, rfl, ho0, hb⟩; refine ⟨_, rfl, ?_⟩; have n0_ := Aside0.mk (Kd.R_elder' (qq11 HO189.out) (Kd.R_base ho0) hb); have n1_ := Aside0.mk (Kd.R_lower (Kd.R_new' ho0 (Kd.R_lt (qq11 HO189.out))) (keep_size (w := w) (g := g) (row := none) qq4)); have n2_ := Aside0.mk (IsS81.below qq8 hb); have n3_ := Aside0.mk (KeepBut.trans qq4 (KeepBut.of_below hb g none) (.inl rfl)); have n4_ := Aside0.mk (below_step qq7 hb); clear HO189; clear HI0; clear HK; clear HB; have HO189 := n0_; have HO196 := n1_; have HI0 := n2_; have HK := n3_; have HB := n4_; clear n0_ n1_ n2_ n3_ n4_; (try clear hb); (try clear hb2); (try clear hk); (try clear hi); (try clear ho0)))
            go_ret
            exact ⟨_, qq12, Kd.Q_of_R (qq61 HO196.out), qq8, qq7, qq4⟩
          · rw [if_neg c28] at H
            have c28b0 : (t191 == 0) = false := beq_eq_false_iff_ne.mpr c28
            have c28b1 : (t191 != 0) = true := bne_iff_ne.mpr c28
            simp only [Option.some.injEq, Prod.mk.injEq] at H
            obtain ⟨rfl, rfl⟩ := H
            go_enter Try.func41, Try.ntmps41
            go_wp2_with (first | ((with_reducible refine gate_callee (f := 48) rfl ?_); refine goesL_ (some 10) rfl rfl Try.func48 (by kernel_rfl) rfl #[.pointer (some ⟨g, 0, none⟩), .int .i64 8] rfl qq2 ?_; (with_reducible refine (spec_l6Rd_pick.calls k g s0_0 s0_1 8 t162 t163 w0 _ ?side1 ?side2 A2.out).mono ?_); (case side1 => exact qq8); (case side2 => exact qq7); rintro e w35 ⟨rfl, hi, hb, hk⟩; refine ⟨_, rfl, ?_⟩; have n0_ := Aside0.mk (KeepBut.trans qq4 hk (.inl rfl)); have n1_ := Aside0.mk (hb); have n2_ := Aside0.mk (hi); clear HK; clear HB; clear HI0; have HK := n0_; have HB := n1_; have HI0 := n2_; clear n0_ n1_ n2_; (try clear hb); (try clear hb2); (try clear hk); (try clear hi)) | ((with_reducible refine gate_callee (f := 72) rfl ?_); refine goesL_ (some 34) rfl rfl Try.func72 (by kernel_rfl) rfl #[.pointer (some ⟨g, 0, none⟩)] rfl qq2 ?_; (with_reducible refine (spec_l92Star.calls k g s0_0 t163 t187 t190 w0 _ ?side1 ?side2 A26.out).mono ?_); (case side1 => exact qq8); (case side2 => exact qq7); rintro e w36 ⟨v188, rfl, ho0, hi, hb, hk⟩; refine ⟨_, rfl, ?_⟩; have n0_ := Aside0.mk (Kd.R_lower ho0 (keep_size (w := w) (g := g) (row := none) qq4)); have n1_ := Aside0.mk (KeepBut.trans qq4 hk (.inl rfl)); have n2_ := Aside0.mk (hb); have n3_ := Aside0.mk (hi); clear HK; clear HB; clear HI0; have HO189 := n0_; have HK := n1_; have HB := n2_; have HI0 := n3_; clear n0_ n1_ n2_ n3_; (try clear hb); (try clear hb2); (try clear hk); (try clear hi); (try clear ho0)) | ((with_reducible refine gate_callee (f := 48) rfl ?_); refine goesL_ (some 36) rfl rfl Try.func48 (by kernel_rfl) rfl #[.pointer (some ⟨g, 0, none⟩), .int .i64 5] rfl qq2 ?_; (with_reducible refine (spec_l6Rd_pick.calls k g s0_0 t190 5 t191 t192 w0 _ ?side1 ?side2 A27.out).mono ?_); (case side1 => exact qq8); (case side2 => exact qq7); rintro e w37 ⟨rfl, hi, hb, hk⟩; refine ⟨_, rfl, ?_⟩; have n0_ := Aside0.mk (Kd.R_mono (Kd.R_keep (IsS81.apart (show IsS81 w0 _ g s0_0 t190 from by repeat (first | (with_reducible first | exact HI0.out | apply IsS81.alloc | apply IsS81.drewN | apply IsS81.drew | apply IsS81.set_1) | exact HI0.out)) (qq11 HO189.out) (by decide)) hk (fun _ h => h.2)) (fun _ h => h.1)); have n1_ := Aside0.mk (KeepBut.trans qq4 hk (.inl rfl)); have n2_ := Aside0.mk (hb); have n3_ := Aside0.mk (hi); clear HO189; clear HK; clear HB; clear HI0; have HO189 := n0_; have HK := n1_; have HB := n2_; have HI0 := n3_; clear n0_ n1_ n2_ n3_; (try clear hb); (try clear hb2); (try clear hk); (try clear hi)))
            go_ret
            exact ⟨_, qq12, Kd.Q_of_R (qq11 HO189.out), qq8, qq7, qq4⟩

end Go.Proofs.Ytgdhgncdpmalcaa.Q
namespace Go.Proofs.Ytgdhgncdpmalcaa.Q
open Go.RowKit Go.Proofs.YtgdhgncdpmalcaaW.PrintWords Go.Proofs.YtgdhgncdpmalcaaW.PrintLast Go.Proofs.YtgdhgncdpmalcaaW.PrintMore
attribute [local go_sem] max2_int min2_int max_two min_two max_three min_three max_four min_four
set_option linter.unusedVariables false
set_option linter.unusedSimpArgs false

/-! ### spec_l6Open: function 42 -/
def spec_l6Open.f (l0 : List Int) : Option (List Int × Int) := if (l0.length : Int) > 2000 then (if 2000 ≤ (l0.length : Int) then (some (l0.take 2000, 0)) else (none)) else (some (l0, 0))
set_option maxHeartbeats 8000000 in
set_option maxRecDepth 100000 in
theorem spec_l6Open.calls (A0 : Option Addr) (c0 : Nat) (l0 : List Int) (r1 : List Int) (r2 : Int) (w0 w : World) (hB : Below w0.heap.size w0 w) (hr0 : Kd.C (Kd.int .u8) w0 A0 l0.length l0) (hc0 : l0.length ≤ c0) (h : spec_l6Open.f l0 = some (r1, r2)) :
    Calls Try.prog 42 #[.slice A0 l0.length c0] w fun e w' => ∃ g_ : Nat, e = .returned (.pointer (some ⟨g_, 0, none⟩)) ∧ IsS81 w0 w' g_ r1 r2 ∧ Below w0.heap.size w0 w' ∧ Below w.heap.size w w' := by
  have hu81 := Try.underlying81
  have HR0 := Aside0.mk hr0
  have HC0 := Aside0.mk hc0
  clear hr0 hc0
  have HBW := Aside0.mk (Below.refl w.heap.size w)
  have HW0 := Aside0.mk hB.size
  have HB := Aside0.mk hB
  clear hB
  have H : (if (l0.length : Int) > 2000 then (if 2000 ≤ (l0.length : Int) then (some (l0.take 2000, 0)) else (none)) else (some (l0, 0))) = some (r1, r2) := h
  clear h
  by_cases c2 : (l0.length : Int) > 2000
  · rw [if_pos c2] at H
    have c2b0 : decide (2000 < (l0.length : Int)) = true := decide_eq_true c2
    have c2b1 : decide (2000 < l0.length) = true := decide_eq_true (by omega)
    clear c2
    by_cases c3 : 2000 ≤ (l0.length : Int)
    · rw [if_pos c3] at H
      have c3b0 := eq_true c3
      have c3b1 : decide (2000 ≤ (l0.length : Int)) = true := decide_eq_true c3
      clear c3
      simp only [Option.some.injEq, Prod.mk.injEq] at H
      obtain ⟨rfl, rfl⟩ := H
      obtain ⟨i04, hi04, _, hsz4, _⟩ := info_parts info5
      obtain ⟨hcut4, hA4, hC4⟩ := print_take_of (P := Try.prog) (Value.int .u8) 0 22 5 .i64 Try.underlying22 hi04 hsz4 A0 c0 l0 2000 (by omega) (of_decide_eq_true qq18) HC0.out
      have HR197 := Aside0.mk (Kd.C_of_reads (h1 := fun _ => rfl) (hA4 _ (Kd.reads_of_C HR0.out)))
      have HC197 := Aside0.mk hC4
      clear hA4 hC4 hi04 hsz4
      go_enter Try.func42, Try.ntmps42
      go_wp2_with (first | ((with_reducible refine gate_dst (N := 10) rfl ?_); refine box_event ?hg (N := 10) ?hd (cs := #[.slice A0 (l0.take 2000).length c0, .int .i64 0]) (t := 81) ?hr ?_; (case hd => rfl); (case hg => rfl); (case hr => exact qq16); intro gb198 hg w5 hbox hb; have n0_ := Aside0.mk (below_step HBW.out hb); have n1_ := Aside0.mk (below_step qq1 hb); have n2_ := Aside0.mk (hbox); have n3_ := Aside0.mk ((qq41 : w.heap.size ≤ gb198)); have n4_ := Aside0.mk ((Nat.le_trans HW0.out (qq41 : w.heap.size ≤ gb198) : w0.heap.size ≤ gb198)); clear HBW; clear HB; have HBW := n0_; have HB := n1_; have BK198 := n2_; have GW198 := n3_; have GE198 := n4_; clear n0_ n1_ n2_ n3_ n4_; clear hb hbox hg))
      go_ret
      exact ⟨_, rfl, (show IsS81 w0 _ gb198 (l0.take 2000) 0 from ⟨_, _, qq9 BK198.out, GE198.out, HR197.out⟩), qq6 HB.out GE198.out, qq6 HBW.out GW198.out⟩
    · rw [if_neg c3] at H
      exact absurd H (by simp)
  · rw [if_neg c2] at H
    have c2b0 : decide (2000 < (l0.length : Int)) = false := decide_eq_false c2
    have c2b1 : decide (2000 < l0.length) = false := decide_eq_false (by omega)
    clear c2
    simp only [Option.some.injEq, Prod.mk.injEq] at H
    obtain ⟨rfl, rfl⟩ := H
    go_enter Try.func42, Try.ntmps42
    go_wp2_with (first | ((with_reducible refine gate_dst (N := 10) rfl ?_); refine box_event ?hg (N := 10) ?hd (cs := #[.slice A0 l0.length c0, .int .i64 0]) (t := 81) ?hr ?_; (case hd => rfl); (case hg => rfl); (case hr => exact qq16); intro gb199 hg w6 hbox hb; have n0_ := Aside0.mk (below_step HBW.out hb); have n1_ := Aside0.mk (below_step qq1 hb); have n2_ := Aside0.mk (hbox); have n3_ := Aside0.mk ((qq41 : w.heap.size ≤ gb199)); have n4_ := Aside0.mk ((Nat.le_trans HW0.out (qq41 : w.heap.size ≤ gb199) : w0.heap.size ≤ gb199)); clear HBW; clear HB; have HBW := n0_; have HB := n1_; have BK199 := n2_; have GW199 := n3_; have GE199 := n4_; clear n0_ n1_ n2_ n3_ n4_; clear hb hbox hg))
    go_ret
    exact ⟨_, rfl, (show IsS81 w0 _ gb199 l0 0 from ⟨_, _, qq9 BK199.out, GE199.out, HR0.out⟩), qq6 HB.out GE199.out, qq6 HBW.out GW199.out⟩

end Go.Proofs.Ytgdhgncdpmalcaa.Q
namespace Go.Proofs.Ytgdhgncdpmalcaa.Q
open Go.RowKit Go.Proofs.YtgdhgncdpmalcaaW.PrintWords Go.Proofs.YtgdhgncdpmalcaaW.PrintLast Go.Proofs.YtgdhgncdpmalcaaW.PrintMore
attribute [local go_sem] max2_int min2_int max_two min_two max_three min_three max_four min_four
set_option linter.unusedVariables false
set_option linter.unusedSimpArgs false

/-! ### spec_DrawPolyInside: function 37 -/
def spec_DrawPolyInside.f (k : Nat) (l0 : List Int) : Option ((List (S32))) := (spec_l6Open.f l0).bind fun bt729 => ((spec_l92Poly.f k bt729.1 bt729.2).bind fun bt732 => (some bt732.1))
set_option maxHeartbeats 8000000 in
set_option maxRecDepth 100000 in
theorem spec_DrawPolyInside.calls (k : Nat) (A0 : Option Addr) (c0 : Nat) (l0 : List Int) (r : List (S32)) (w : World) (hr0 : Kd.C (Kd.int .u8) w A0 l0.length l0) (hc0 : l0.length ≤ c0) (h : spec_DrawPolyInside.f k l0 = some r) :
    Calls Try.prog 37 #[.slice A0 l0.length c0] w fun e w' => ∃ v0_ : Value, e = .returned (v0_) ∧ Kd.Q k32 32 w' w.heap.size (fun _ => True) v0_ r ∧ Below w.heap.size w w' := by
  have HR0 := Aside0.mk hr0
  have HC0 := Aside0.mk hc0
  clear hr0 hc0
  have HB := Aside0.mk (Below.refl w.heap.size w)
  have H : ((spec_l6Open.f l0).bind fun bt729 => ((spec_l92Poly.f k bt729.1 bt729.2).bind fun bt732 => (some bt732.1))) = some r := h
  clear h
  replace H := Option.bind_eq_some_iff.mp H
  obtain ⟨⟨t729, t730⟩, A20, H⟩ := H
  replace H : ((spec_l92Poly.f k t729 t730).bind fun bt732 => (some bt732.1)) = some r := H
  have A2 := Aside0.mk A20
  clear A20
  replace H := Option.bind_eq_some_iff.mp H
  obtain ⟨⟨t732, t735⟩, A30, H⟩ := H
  replace H : (some t732) = some r := H
  have A3 := Aside0.mk A30
  clear A30
  obtain rfl := Option.some.inj H
  go_enter Try.func37, Try.ntmps37
  go_wp2_with (first | ((with_reducible refine gate_callee (f := 42) rfl ?_); refine goesL_ (some 4) rfl rfl Try.func42 (by kernel_rfl) rfl #[.slice A0 l0.length c0] rfl qq2 ?_; (with_reducible refine (spec_l6Open.calls _ _ l0 t729 t730 w _ ?side1 ?side2 ?side3 A2.out).mono ?_); (case side1 => exact qq1); (case side2 => exact HR0.out); (case side3 => exact HC0.out); rintro e w4 ⟨g731, rfl, hi, hb, hb2⟩; refine ⟨_, rfl, ?_⟩; have n0_ := Aside0.mk (hb); have n1_ := Aside0.mk (hi); clear HB; have HB := n0_; have HI731 := n1_; clear n0_ n1_; (try clear hb); (try clear hb2); (try clear hk); (try clear hi)) | ((with_reducible refine gate_callee (f := 41) rfl ?_); refine goesL_ (some 5) rfl rfl Try.func41 (by kernel_rfl) rfl #[.pointer (some ⟨g731, 0, none⟩)] rfl qq2 ?_; (with_reducible refine (spec_l92Poly.calls k g731 t729 t730 t732 t735 w _ ?side1 ?side2 A3.out).mono ?_); (case side1 => repeat (first | (with_reducible first | exact HI731.out | apply IsS81.alloc | apply IsS81.drewN | apply IsS81.drew | apply IsS81.set_1) | exact HI731.out)); (case side2 => exact qq48); rintro e w5 ⟨v733, rfl, ho0, hi, hb, hk⟩; refine ⟨_, rfl, ?_⟩; have n0_ := Aside0.mk (Kd.Q_lower ho0 (below_size qq48)); have n1_ := Aside0.mk (hb); have n2_ := Aside0.mk (hi); clear HB; clear HI731; have HO734 := n0_; have HB := n1_; have HI731 := n2_; clear n0_ n1_ n2_; (try clear hb); (try clear hb2); (try clear hk); (try clear hi); (try clear ho0)))
  go_ret
  exact ⟨_, qq12, qq24 HO734.out, qq48⟩

end Go.Proofs.Ytgdhgncdpmalcaa.Q
namespace Go.Proofs.Ytgdhgncdpmalcaa.Q
open Go.RowKit Go.Proofs.YtgdhgncdpmalcaaW.PrintWords Go.Proofs.YtgdhgncdpmalcaaW.PrintLast Go.Proofs.YtgdhgncdpmalcaaW.PrintMore
attribute [local go_sem] max2_int min2_int max_two min_two max_three min_three max_four min_four
set_option linter.unusedVariables false
set_option linter.unusedSimpArgs false

/-! ### spec_l1Common: function 89 -/
def spec_l1Common.l0 : Nat → Int → Int → Option (Int)
  | 0, _, _ => none
  | k + 1, x0, x1 => if x1 = 0 then (some x0) else (spec_l1Common.l0 k x1 (Int.tmod x0 x1))
def spec_l1Common.f (k : Nat) (a0 : Int) (a1 : Int) : Option (Int) := spec_l1Common.l0 k a0 a1
set_option maxHeartbeats 8000000 in
set_option maxRecDepth 100000 in
theorem spec_l1Common.calls (k : Nat) (a0 : Int) (a1 : Int) (r : Int) (w : World) (h : spec_l1Common.f k a0 a1 = some r) :
    Calls Try.prog 89 #[.int .i64 a0, .int .i64 a1] w fun e w' => e = .returned (.int .i64 r) ∧ Drawn0 w w' := by
  have H : (spec_l1Common.l0 k a0 a1) = some r := h
  clear h
  have H' := Aside0.mk H
  clear H
  go_enter Try.func89, Try.ntmps89
  go_wp2
  go_loopg [0, 1] k (fun kq v0 v1 w' => ∃ (x0_1 : Int) (x1_1 : Int), v0 = .int .i64 x0_1 ∧ v1 = .int .i64 x1_1 ∧ Aside0 (spec_l1Common.l0 kq x0_1 x1_1 = some r) ∧ Aside0 (kq ≤ k) ∧ Drawn0 w w')
  case atStart => exact ⟨(a0), (a1), qq13, qq13, H', ⟨Nat.le_refl _⟩, qq34⟩
  case round =>
    clear H'
    try clear p2
    obtain ⟨x0_1, x1_1, rfl, rfl, HA, HK1, ⟨m1, rfl⟩⟩ := hrel
    cases gk with
    | zero => exact absurd HA.out (by simp [spec_l1Common.l0])
    | succ k1 =>
      have H := HA.out
      clear HA
      simp only [spec_l1Common.l0] at H
      by_cases c3 : x1_1 = 0
      · rw [if_pos c3] at H
        have c3b0 : (x1_1 == 0) = true := beq_iff_eq.mpr c3
        have c3b1 : (x1_1 != 0) = false := bne_eq_false_iff_eq.mpr c3
        clear c3
        obtain rfl := Option.some.inj H
        go_wp2
        go_ret
        exact ⟨qq13, qq34⟩
      · rw [if_neg c3] at H
        have c3b0 : (x1_1 == 0) = false := beq_eq_false_iff_ne.mpr c3
        have c3b1 : (x1_1 != 0) = true := bne_iff_ne.mpr c3
        have H' := Aside0.mk H
        clear H
        go_wp2
        go_roundg k1
        case measure => have := HK1.out; omega
        case rel => exact ⟨(x1_1), (Int.tmod x0_1 x1_1), qq13, qq13, H', ⟨by have := HK1.out; omega⟩, qq34⟩

end Go.Proofs.Ytgdhgncdpmalcaa.Q
namespace Go.Proofs.Ytgdhgncdpmalcaa.Pure
open Go.RowKit Go.Proofs.Ytgdhgncdpmalcaa.Q Go.Proofs.YtgdhgncdpmalcaaW.PrintWords Go.Proofs.YtgdhgncdpmalcaaW.PrintLast Go.Proofs.YtgdhgncdpmalcaaW.PrintMore

/-! The greatest common divisor. -/
theorem gcd_step (a b : Int) (ha : 0 ≤ a) (hb : 0 ≤ b) : Int.gcd b (a % b) = Int.gcd a b := by
  obtain ⟨m, rfl⟩ : ∃ m : Nat, a = m := ⟨a.toNat, by omega⟩
  obtain ⟨n, rfl⟩ : ∃ n : Nat, b = n := ⟨b.toNat, by omega⟩
  have e : ((m : Int) % (n : Int)) = ((m % n : Nat) : Int) := by simp
  rw [e, Int.gcd_natCast_natCast, Int.gcd_natCast_natCast, Nat.gcd_comm n, ← Nat.gcd_rec, Nat.gcd_comm]
theorem spec_l1Common_eq (k : Nat) : ∀ (a b : Int), 0 ≤ a → 0 ≤ b → b.toNat < k → spec_l1Common.l0 k a b = some (Int.gcd a b : Int) := by
  induction k with
  | zero => intro a b _ _ h; omega
  | succ k ih =>
    intro a b ha hb hk
    simp only [spec_l1Common.l0]
    by_cases h : b = 0
    · rw [if_pos h, h, Int.gcd_zero_right]; congr 1; omega
    · rw [if_neg h, Int.tmod_eq_emod_of_nonneg ha]
      have h1 := Int.emod_nonneg a h
      have h2 := Int.emod_lt_of_pos a (show 0 < b by omega)
      rw [ih b (a % b) hb h1 (by omega)]
      rw [gcd_step a b ha hb]
theorem impl_gcd_l0 (k : Nat) : ∀ (a b : Int), 0 ≤ a → 0 ≤ b → b.toNat < k → impl_gcdInt.l0 k a b = some (Int.gcd a b : Int) := by
  induction k with
  | zero => intro a b _ _ h; omega
  | succ k ih =>
    intro a b ha hb hk
    simp only [impl_gcdInt.l0]
    by_cases h : b = 0
    · rw [if_pos h, h, Int.gcd_zero_right]; congr 1; omega
    · rw [if_neg h, Int.tmod_eq_emod_of_nonneg ha]
      have h1 := Int.emod_nonneg a h
      have h2 := Int.emod_lt_of_pos a (show 0 < b by omega)
      rw [ih b (a % b) hb h1 (by omega)]
      rw [gcd_step a b ha hb]
theorem l1Size_eq {x : Int} (h0 : -9223372036854775807 ≤ x) (h1 : x ≤ 9223372036854775807) : spec_l1Size.f x = some (x.natAbs : Int) := by
  unfold spec_l1Size.f
  rw [w64 (by omega) (by omega), mx_eq]; congr 1; omega
theorem absInt_eq {x : Int} (h0 : -9223372036854775807 ≤ x) (h1 : x ≤ 9223372036854775807) : impl_absInt.f x = some (x.natAbs : Int) := by
  unfold impl_absInt.f
  by_cases h : x < 0
  · rw [if_pos h, w64 (by omega) (by omega)]; congr 1; omega
  · rw [if_neg h]; congr 1; omega

theorem gcd_natAbs (x y : Int) : Int.gcd (x.natAbs : Int) (y.natAbs : Int) = Int.gcd x y := by simp [Int.gcd]
theorem impl_gcd_eq (k : Nat) (hk : 20000 < k) (x y : Int) (hx : -20000 ≤ x ∧ x ≤ 20000) (hy : -20000 ≤ y ∧ y ≤ 20000) : impl_pair_gcd.f k x y = some (Int.gcd x y : Int) := by
  simp only [impl_pair_gcd.f, impl_gcdInt.f]
  rw [absInt_eq (x := x) (by omega) (by omega), absInt_eq (x := y) (by omega) (by omega)]
  simp only [Option.bind_some]
  rw [impl_gcd_l0 k _ _ (by omega) (by omega) (by omega), gcd_natAbs]; rfl
end Go.Proofs.Ytgdhgncdpmalcaa.Pure
namespace Go.Proofs.Ytgdhgncdpmalcaa.Q
open Go.RowKit Go.Proofs.YtgdhgncdpmalcaaW.PrintWords Go.Proofs.YtgdhgncdpmalcaaW.PrintLast Go.Proofs.YtgdhgncdpmalcaaW.PrintMore
attribute [local go_sem] max2_int min2_int max_two min_two max_three min_three max_four min_four
set_option linter.unusedVariables false
set_option linter.unusedSimpArgs false

/-! ### impl_PointStep: function 86 -/
def impl_PointStep.j0 : Nat → Bool → Int → Int → Int → Int → Option (Int × Int × Bool)
  | 0, _, _, _, _, _ => none
  | k + 1, x13, x739000, x739001, x740000, x740001 => if x13 = true then (some (0, 0, false)) else ((impl_pairOf.f x740000 x740001).bind fun bt743 => ((impl_pairOf.f x739000 x739001).bind fun bt745 => ((impl_pair_minus.f bt743.1 bt743.2 bt745.1 bt745.2).bind fun bt747 => ((impl_pair_point.f bt747.1 bt747.2).bind fun bt749 => (some (bt749.1, bt749.2, true))))))
def impl_PointStep.f (k : Nat) (a0_0 : Int) (a0_1 : Int) (a1_0 : Int) (a1_1 : Int) : Option (Int × Int × Bool) := (impl_PointValid.f a0_0 a0_1).bind fun t741 => (if t741 = true then ((impl_PointValid.f a1_0 a1_1).bind fun t742 => (impl_PointStep.j0 k (!t742) a0_0 a0_1 a1_0 a1_1)) else (impl_PointStep.j0 k true a0_0 a0_1 a1_0 a1_1))
def impl_PointStep.T3 : Bool × List (List Nat × List Nat) := (true, [([], []), ([0], [0]), ([], []), ([2, 1], [2]), ([1, 3, 3], [1, 3]), ([4, 4], [4]), ([5, 5, 0, 1, 2, 3, 4, 5], [5]), ([6, 0, 1, 2, 3, 4, 5, 6], [])])
def impl_PointStep.B3 : List Nat := [0, 1, 0, 7, 15, 31, 63, 127]
theorem impl_PointStep.tab3 : rtab .any (opsOf Try.f86 3) = impl_PointStep.T3 := by kernel_rfl
theorem impl_PointStep.bits3 : waitsOk impl_PointStep.T3.2 impl_PointStep.B3 = true := by kernel_rfl
set_option maxHeartbeats 8000000 in
set_option maxRecDepth 100000 in
theorem impl_PointStep.calls (k : Nat) (a0_0 : Int) (a0_1 : Int) (a1_0 : Int) (a1_1 : Int) (r1 : Int) (r2 : Int) (r3 : Bool) (w : World) (h : impl_PointStep.f k a0_0 a0_1 a1_0 a1_1 = some (r1, r2, r3)) :
    Calls Try.prog 86 #[.agg #[.int .i64 a0_0, .int .i64 a0_1], .agg #[.int .i64 a1_0, .int .i64 a1_1]] w fun e w' => e = .returned (.tuple #[.agg #[.int .i64 r1, .int .i64 r2], .bool r3]) ∧ Below w.heap.size w w' := by
  have hu32 := Try.underlying32
  have HB := Aside0.mk (Below.refl w.heap.size w)
  have H : ((impl_PointValid.f a0_0 a0_1).bind fun t741 => (if t741 = true then ((impl_PointValid.f a1_0 a1_1).bind fun t742 => (impl_PointStep.j0 k (!t742) a0_0 a0_1 a1_0 a1_1)) else (impl_PointStep.j0 k true a0_0 a0_1 a1_0 a1_1))) = some (r1, r2, r3) := h
  clear h
  have HC3 := Aside0.mk H
  clear H
  go_enter Try.func86, Try.ntmps86
  go_upto_region 1 with (first | ((with_reducible refine gate_dst (N := 2) rfl ?_); refine box_event ?hg (N := 2) ?hd (cs := #[.int .i64 a0_0, .int .i64 a0_1]) (t := 32) ?hr ?_; (case hd => rfl); (case hg => rfl); (case hr => exact qq16); intro gb738 hg w4 hbox hb; have n0_ := Aside0.mk (below_step qq1 hb); have n1_ := Aside0.mk (hbox); have n2_ := Aside0.mk ((qq30 : w.heap.size ≤ gb738)); have n3_ := Aside0.mk ((qq30 : w.heap.size ≤ gb738)); clear HB; have HB := n0_; have BK738 := n1_; have GW738 := n2_; have GE738 := n3_; clear n0_ n1_ n2_ n3_; clear hb hbox hg) | ((with_reducible refine gate_dst (N := 3) rfl ?_); refine box_event ?hg (N := 3) ?hd (cs := #[.int .i64 a1_0, .int .i64 a1_1]) (t := 32) ?hr ?_; (case hd => rfl); (case hg => rfl); (case hr => exact qq16); intro gb739 hg w5 hbox hb; have n0_ := Aside0.mk (bbl_ BK738.out hb); have n1_ := Aside0.mk (below_step (qq6 HB.out GE738.out) hb); have n2_ := Aside0.mk (hbox); have n3_ := Aside0.mk ((qq31 HB.out GE738.out : w.heap.size ≤ gb739)); have n4_ := Aside0.mk ((qq31 HB.out GE738.out : w.heap.size ≤ gb739)); have n5_ := Aside0.mk ((qq19 BK738.out : gb738 ≠ gb739)); have n6_ := Aside0.mk ((qq20 BK738.out : gb739 ≠ gb738)); clear BK738; clear HB; have BK738 := n0_; have HB := n1_; have BK739 := n2_; have GW739 := n3_; have GE739 := n4_; have NB738_739 := n5_; have NB739_738 := n6_; clear n0_ n1_ n2_ n3_ n4_ n5_ n6_; clear hb hbox hg) | ((with_reducible refine gate_dst (N := 4) rfl ?_); refine box_event ?hg (N := 4) ?hd (cs := #[.int .i64 0, .int .i64 0]) (t := 32) ?hr ?_; (case hd => rfl); (case hg => rfl); (case hr => exact qq16); intro gb740 hg w6 hbox hb; have n0_ := Aside0.mk (bbl_ BK738.out hb); have n1_ := Aside0.mk (bbl_ BK739.out hb); have n2_ := Aside0.mk (below_step (qq5 HB.out GE738.out GE739.out) hb); have n3_ := Aside0.mk (hbox); have n4_ := Aside0.mk ((qq32 HB.out GE738.out GE739.out : w.heap.size ≤ gb740)); have n5_ := Aside0.mk ((qq32 HB.out GE738.out GE739.out : w.heap.size ≤ gb740)); have n6_ := Aside0.mk ((qq19 BK738.out : gb738 ≠ gb740)); have n7_ := Aside0.mk ((qq20 BK738.out : gb740 ≠ gb738)); have n8_ := Aside0.mk ((qq19 BK739.out : gb739 ≠ gb740)); have n9_ := Aside0.mk ((qq20 BK739.out : gb740 ≠ gb739)); clear BK738; clear BK739; clear HB; have BK738 := n0_; have BK739 := n1_; have HB := n2_; have BK740 := n3_; have GW740 := n4_; have GE740 := n5_; have NB738_740 := n6_; have NB740_738 := n7_; have NB739_740 := n8_; have NB740_739 := n9_; clear n0_ n1_ n2_ n3_ n4_ n5_ n6_ n7_ n8_ n9_; clear hb hbox hg))
  (try simp only [Act.put, List.setIfInBounds_toArray, List.set_cons_zero, List.set_cons_succ])
  go_cut [13] (fun v13 wc => ∃ (kq : Nat) (x13_2 : Bool), v13 = .bool x13_2 ∧ Aside0 (impl_PointStep.j0 kq x13_2 a0_0 a0_1 a1_0 a1_1 = some (r1, r2, r3)) ∧ Aside0 (kq ≤ k) ∧ Aside0 (wc.heap[gb738]? = some (.cells #[.int .i64 a0_0, .int .i64 a0_1] 32 (0, 0))) ∧ Aside0 (wc.heap[gb739]? = some (.cells #[.int .i64 a1_0, .int .i64 a1_1] 32 (0, 0))) ∧ Aside0 (wc.heap[gb740]? = some (.cells #[.int .i64 0, .int .i64 0] 32 (0, 0))) ∧ Aside0 (Below w.heap.size w wc))
  case first =>
    have H := HC3.out
    clear HC3
    replace H := Option.bind_eq_some_iff.mp H
    obtain ⟨t741, A70, H⟩ := H
    replace H : (if t741 = true then ((impl_PointValid.f a1_0 a1_1).bind fun t742 => (impl_PointStep.j0 k (!t742) a0_0 a0_1 a1_0 a1_1)) else (impl_PointStep.j0 k true a0_0 a0_1 a1_0 a1_1)) = some (r1, r2, r3) := H
    have A7 := Aside0.mk A70
    clear A70
    by_cases c8 : t741 = true
    · subst c8
      have H1 : ((impl_PointValid.f a1_0 a1_1).bind fun t742 => (impl_PointStep.j0 k (!t742) a0_0 a0_1 a1_0 a1_1)) = some (r1, r2, r3) := by rw [if_pos rfl] at H; exact H
      clear H
      have H := H1
      clear H1
      replace H := Option.bind_eq_some_iff.mp H
      obtain ⟨t742, A90, H⟩ := H
      replace H : (impl_PointStep.j0 k (!t742) a0_0 a0_1 a1_0 a1_1) = some (r1, r2, r3) := H
      have A9 := Aside0.mk A90
      clear A90
      have H' := Aside0.mk H
      clear H
      have hnb10 := NB738_739.out
      have hnc10 := NB739_738.out
      have hnb11 := NB738_740.out
      have hnc11 := NB740_738.out
      have hcz12_0 : w6.cell? ⟨gb738, 0, none⟩ = some (.int .i64 a0_0) := (blk_cell BK738.out 0).trans rfl
      have hcz12_1 : w6.cell? ⟨gb738, 1, none⟩ = some (.int .i64 a0_1) := (blk_cell BK738.out 1).trans rfl
      have hfz12_0 := blk_frozen BK738.out 0
      have hfz12_1 := blk_frozen BK738.out 1
      go_wp2_with (first | ((with_reducible refine gate_callee (f := 23) rfl ?_); refine goesL_ (some 7) rfl rfl Try.func23 (by kernel_rfl) rfl #[.agg #[.int .i64 a0_0, .int .i64 a0_1]] rfl qq2 ?_; (with_reducible refine (impl_PointValid.calls a0_0 a0_1 true _ A7.out).mono ?_); rintro e w13 ⟨rfl, hb⟩; refine ⟨_, rfl, ?_⟩; have n0_ := Aside0.mk (bbl_ BK738.out hb); have n1_ := Aside0.mk (bbl_ BK739.out hb); have n2_ := Aside0.mk (bbl_ BK740.out hb); have n3_ := Aside0.mk (below_step (qq3 HB.out GE738.out GE739.out GE740.out) hb); clear BK738; clear BK739; clear BK740; clear HB; have BK738 := n0_; have BK739 := n1_; have BK740 := n2_; have HB := n3_; clear n0_ n1_ n2_ n3_; (try clear hb); (try clear hb2); (try clear hk); (try clear hi); have hnb14 := NB739_740.out; have hnc14 := NB740_739.out; have hcz15_0 : w13.cell? ⟨gb739, 0, none⟩ = some (.int .i64 a1_0) := (blk_cell BK739.out 0).trans rfl; have hcz15_1 : w13.cell? ⟨gb739, 1, none⟩ = some (.int .i64 a1_1) := (blk_cell BK739.out 1).trans rfl; have hfz15_0 := blk_frozen BK739.out 0; have hfz15_1 := blk_frozen BK739.out 1) | (go_at_call 23; (with_reducible refine (impl_PointValid.calls a1_0 a1_1 t742 _ A9.out).mono ?_); rintro e w16 ⟨rfl, hb⟩; have n0_ := Aside0.mk (bbl_ BK738.out hb); have n1_ := Aside0.mk (bbl_ BK739.out hb); have n2_ := Aside0.mk (bbl_ BK740.out hb); have n3_ := Aside0.mk (below_step (qq3 HB.out GE738.out GE739.out GE740.out) hb); clear BK738; clear BK739; clear BK740; clear HB; have BK738 := n0_; have BK739 := n1_; have BK740 := n2_; have HB := n3_; clear n0_ n1_ n2_ n3_; (try clear hb); (try clear hb2); (try clear hk); (try clear hi)))
      go_meet
      case rel => exact ⟨_, (!t742), qq13, H', ⟨qq43⟩, ⟨qq9 BK738.out⟩, ⟨qq9 BK739.out⟩, ⟨qq9 BK740.out⟩, ⟨qq3 HB.out GE738.out GE739.out GE740.out⟩⟩
    · replace c8 := Bool.eq_false_iff.mpr c8
      subst c8
      have H1 : (impl_PointStep.j0 k true a0_0 a0_1 a1_0 a1_1) = some (r1, r2, r3) := by rw [if_neg (show ¬ (false = true) by decide)] at H; exact H
      clear H
      have H := H1
      clear H1
      have H' := Aside0.mk H
      clear H
      have hnb17 := NB738_739.out
      have hnc17 := NB739_738.out
      have hnb18 := NB738_740.out
      have hnc18 := NB740_738.out
      have hcz19_0 : w6.cell? ⟨gb738, 0, none⟩ = some (.int .i64 a0_0) := (blk_cell BK738.out 0).trans rfl
      have hcz19_1 : w6.cell? ⟨gb738, 1, none⟩ = some (.int .i64 a0_1) := (blk_cell BK738.out 1).trans rfl
      have hfz19_0 := blk_frozen BK738.out 0
      have hfz19_1 := blk_frozen BK738.out 1
      go_wp2_with (first | ((with_reducible refine gate_callee (f := 23) rfl ?_); refine goesL_ (some 7) rfl rfl Try.func23 (by kernel_rfl) rfl #[.agg #[.int .i64 a0_0, .int .i64 a0_1]] rfl qq2 ?_; (with_reducible refine (impl_PointValid.calls a0_0 a0_1 false _ A7.out).mono ?_); rintro e w20 ⟨rfl, hb⟩; refine ⟨_, rfl, ?_⟩; have n0_ := Aside0.mk (bbl_ BK738.out hb); have n1_ := Aside0.mk (bbl_ BK739.out hb); have n2_ := Aside0.mk (bbl_ BK740.out hb); have n3_ := Aside0.mk (below_step (qq3 HB.out GE738.out GE739.out GE740.out) hb); clear BK738; clear BK739; clear BK740; clear HB; have BK738 := n0_; have BK739 := n1_; have BK740 := n2_; have HB := n3_; clear n0_ n1_ n2_ n3_; (try clear hb); (try clear hb2); (try clear hk); (try clear hi)))
      go_meet
      case rel => exact ⟨_, (true), qq13, H', ⟨qq43⟩, ⟨qq9 BK738.out⟩, ⟨qq9 BK739.out⟩, ⟨qq9 BK740.out⟩, ⟨qq3 HB.out GE738.out GE739.out GE740.out⟩⟩
  case rest =>
    clear HC3
    try clear c1
    try clear c2
    try clear p2
    try clear c8
    try clear c10
    try clear c11
    try clear c14
    try clear c17
    try clear c18
    try clear hcz12_0
    try clear hcz12_1
    try clear hcz15_0
    try clear hcz15_1
    try clear hcz19_0
    try clear hcz19_1
    try clear hfz12_0
    try clear hfz12_1
    try clear hfz15_0
    try clear hfz15_1
    try clear hfz19_0
    try clear hfz19_1
    obtain ⟨kq, x13_2, rfl, HA, HJ2, BK738, BK739, BK740, HB⟩ := hcut
    cases kq with
    | zero => exact absurd HA.out (by simp [impl_PointStep.j0])
    | succ kj2 =>
      have H := HA.out
      clear HA
      simp only [impl_PointStep.j0] at H
      by_cases c21 : x13_2 = true
      · subst c21
        have H1 : (some (0, 0, false)) = some (r1, r2, r3) := by rw [if_pos rfl] at H; exact H
        clear H
        have H := H1
        clear H1
        simp only [Option.some.injEq, Prod.mk.injEq] at H
        obtain ⟨rfl, rfl, rfl⟩ := H
        have hnb22 := NB740_738.out
        have hnc22 := NB738_740.out
        have hnb23 := NB740_739.out
        have hnc23 := NB739_740.out
        have hcz24_0 : wc.cell? ⟨gb740, 0, none⟩ = some (.int .i64 0) := (blk_cell BK740.out 0).trans rfl
        have hcz24_1 : wc.cell? ⟨gb740, 1, none⟩ = some (.int .i64 0) := (blk_cell BK740.out 1).trans rfl
        have hfz24_0 := blk_frozen BK740.out 0
        have hfz24_1 := blk_frozen BK740.out 1
        go_wp2
        refine bodyPost_ret (results_ct rfl _ _ gb740 32 #[.int .i64 0, .int .i64 0] (0, 0) _ rfl (qq33 BK740.out) Try.underlying32 rfl (by kernel_rfl)) rfl ?_
        exact ⟨qq12, qq3 HB.out GE738.out GE739.out GE740.out⟩
      · replace c21 := Bool.eq_false_iff.mpr c21
        subst c21
        have H1 : ((impl_pairOf.f a1_0 a1_1).bind fun bt743 => ((impl_pairOf.f a0_0 a0_1).bind fun bt745 => ((impl_pair_minus.f bt743.1 bt743.2 bt745.1 bt745.2).bind fun bt747 => ((impl_pair_point.f bt747.1 bt747.2).bind fun bt749 => (some (bt749.1, bt749.2, true)))))) = some (r1, r2, r3) := by rw [if_neg (show ¬ (false = true) by decide)] at H; exact H
        clear H
        have H := H1
        clear H1
        replace H := Option.bind_eq_some_iff.mp H
        obtain ⟨⟨t743, t744⟩, A250, H⟩ := H
        replace H : ((impl_pairOf.f a0_0 a0_1).bind fun bt745 => ((impl_pair_minus.f t743 t744 bt745.1 bt745.2).bind fun bt747 => ((impl_pair_point.f bt747.1 bt747.2).bind fun bt749 => (some (bt749.1, bt749.2, true))))) = some (r1, r2, r3) := H
        have A25 := Aside0.mk A250
        clear A250
        replace H := Option.bind_eq_some_iff.mp H
        obtain ⟨⟨t745, t746⟩, A260, H⟩ := H
        replace H : ((impl_pair_minus.f t743 t744 t745 t746).bind fun bt747 => ((impl_pair_point.f bt747.1 bt747.2).bind fun bt749 => (some (bt749.1, bt749.2, true)))) = some (r1, r2, r3) := H
        have A26 := Aside0.mk A260
        clear A260
        replace H := Option.bind_eq_some_iff.mp H
        obtain ⟨⟨t747, t748⟩, A270, H⟩ := H
        replace H : ((impl_pair_point.f t747 t748).bind fun bt749 => (some (bt749.1, bt749.2, true))) = some (r1, r2, r3) := H
        have A27 := Aside0.mk A270
        clear A270
        replace H := Option.bind_eq_some_iff.mp H
        obtain ⟨⟨t749, t750⟩, A280, H⟩ := H
        replace H : (some (t749, t750, true)) = some (r1, r2, r3) := H
        have A28 := Aside0.mk A280
        clear A280
        simp only [Option.some.injEq, Prod.mk.injEq] at H
        obtain ⟨rfl, rfl, rfl⟩ := H
        try go_wp2
        have n0_ := Aside0.mk (blk_drew BK738.out)
        have n1_ := Aside0.mk (blk_drew BK739.out)
        have n2_ := Aside0.mk (blk_drew BK740.out)
        have n3_ := Aside0.mk (below_drew1 HB.out)
        clear BK738
        clear BK739
        clear BK740
        clear HB
        have BK738 := n0_
        have BK739 := n1_
        have BK740 := n2_
        have HB := n3_
        clear n0_ n1_ n2_ n3_
        refine start_ (n := 8) (S := fun w' => w'.cell? ⟨gb739, 0, none⟩ = some (.int .i64 a1_0) ∧ w'.cell? ⟨gb739, 1, none⟩ = some (.int .i64 a1_1) ∧ w'.cell? ⟨gb738, 0, none⟩ = some (.int .i64 a0_0) ∧ w'.cell? ⟨gb738, 1, none⟩ = some (.int .i64 a0_1)) (ds := []) #[false, false, false, false, false, false, false, false] (by kernel_rfl) rfl rfl ⟨(blk_cell BK739.out 0).trans rfl, (blk_cell BK739.out 1).trans rfl, (blk_cell BK738.out 0).trans rfl, (blk_cell BK738.out 1).trans rfl⟩ (fun hHeld => ?_); refine with_tabW impl_PointStep.tab3 impl_PointStep.bits3 (fun HT_ HW_ => ?_)
        generalize wc.drew = w29 at BK738 BK739 BK740 HB hHeld ⊢
        refine take_ (i := 0) (N := some 15) (v := ?_) (a' := ?_) #[true, false, false, false, false, false, false, false] rfl rfl (take_ofW HT_.out HW_.out (by kernel_rfl)) (fun _ _ _ h => h) (Or.inl ⟨by rfl, ?_⟩) hHeld ?_ ?_
        rotate_left
        · rintro w' ⟨s0, s1, s2, s3⟩
          go_simp
          with_reducible rfl
        rotate_left
        · simp only [Act.put, List.setIfInBounds_toArray, List.set_cons_zero, List.set_cons_succ, i64_w, i32_w]
          rfl
        refine take_ (i := 2) (N := some 17) (v := ?_) (a' := ?_) #[true, false, true, false, false, false, false, false] rfl rfl (take_ofW HT_.out HW_.out (by kernel_rfl)) (fun _ _ _ h => h) (Or.inl ⟨by rfl, ?_⟩) hHeld ?_ ?_
        rotate_left
        · rintro w' ⟨s0, s1, s2, s3⟩
          go_simp
          with_reducible rfl
        rotate_left
        · simp only [Act.put, List.setIfInBounds_toArray, List.set_cons_zero, List.set_cons_succ, i64_w, i32_w]
          rfl
        refine one_ (i := 1) (N := some 16) #[true, true, true, false, false, false, false, false] rfl rfl (one_of HT_.out (by kernel_rfl)) (by decide) (fun K hK => ?_)
        refine goes_ Try.func53 (by kernel_rfl) rfl #[.agg #[.int .i64 a1_0, .int .i64 a1_1]] (by rfl) rfl rfl qq2 ?_
        with_reducible refine (impl_pairOf.calls a1_0 a1_1 t743 t744 _ A25.out).mono ?_
        rintro e w30 ⟨rfl, hb⟩
        refine ⟨_, rfl, ?_⟩
        have n0_ := Aside0.mk (bbl_ BK738.out hb)
        have n1_ := Aside0.mk (bbl_ BK739.out hb)
        have n2_ := Aside0.mk (bbl_ BK740.out hb)
        have n3_ := Aside0.mk (below_step (qq3 HB.out GE738.out GE739.out GE740.out) hb)
        clear BK738
        clear BK739
        clear BK740
        clear HB
        have BK738 := n0_
        have BK739 := n1_
        have BK740 := n2_
        have HB := n3_
        clear n0_ n1_ n2_ n3_
        (try clear hb)
        (try clear hb2)
        (try clear hk)
        (try clear hi)
        refine hK.out _ _ ⟨(blk_cell BK739.out 0).trans rfl, (blk_cell BK739.out 1).trans rfl, (blk_cell BK738.out 0).trans rfl, (blk_cell BK738.out 1).trans rfl⟩ (fun hHeld => ?_)
        clear hK K
        refine norm_ (a' := ?_) ?_ ?_
        rotate_left
        · show Act.put _ (some 16) _ = _
          simp only [Act.put, List.setIfInBounds_toArray, List.set_cons_zero, List.set_cons_succ, i64_w, i32_w]
          rfl
        refine one_ (i := 3) (N := some 18) #[true, true, true, true, false, false, false, false] rfl rfl (one_of HT_.out (by kernel_rfl)) (by decide) (fun K hK => ?_)
        refine goes_ Try.func53 (by kernel_rfl) rfl #[.agg #[.int .i64 a0_0, .int .i64 a0_1]] (by rfl) rfl rfl qq2 ?_
        with_reducible refine (impl_pairOf.calls a0_0 a0_1 t745 t746 _ A26.out).mono ?_
        rintro e w31 ⟨rfl, hb⟩
        refine ⟨_, rfl, ?_⟩
        have n0_ := Aside0.mk (bbl_ BK738.out hb)
        have n1_ := Aside0.mk (bbl_ BK739.out hb)
        have n2_ := Aside0.mk (bbl_ BK740.out hb)
        have n3_ := Aside0.mk (below_step (qq3 HB.out GE738.out GE739.out GE740.out) hb)
        clear BK738
        clear BK739
        clear BK740
        clear HB
        have BK738 := n0_
        have BK739 := n1_
        have BK740 := n2_
        have HB := n3_
        clear n0_ n1_ n2_ n3_
        (try clear hb)
        (try clear hb2)
        (try clear hk)
        (try clear hi)
        refine hK.out _ _ ⟨(blk_cell BK739.out 0).trans rfl, (blk_cell BK739.out 1).trans rfl, (blk_cell BK738.out 0).trans rfl, (blk_cell BK738.out 1).trans rfl⟩ (fun hHeld => ?_)
        clear hK K
        refine norm_ (a' := ?_) ?_ ?_
        rotate_left
        · show Act.put _ (some 18) _ = _
          simp only [Act.put, List.setIfInBounds_toArray, List.set_cons_zero, List.set_cons_succ, i64_w, i32_w]
          rfl
        refine one_ (i := 4) (N := some 19) #[true, true, true, true, true, false, false, false] rfl rfl (one_of HT_.out (by kernel_rfl)) (by decide) (fun K hK => ?_)
        refine goes_ Try.func80 (by kernel_rfl) rfl #[.agg #[.int .i64 t743, .int .i64 t744], .agg #[.int .i64 t745, .int .i64 t746]] (by rfl) rfl rfl qq2 ?_
        with_reducible refine (impl_pair_minus.calls t743 t744 t745 t746 t747 t748 _ A27.out).mono ?_
        rintro e w32 ⟨rfl, hb⟩
        refine ⟨_, rfl, ?_⟩
        have n0_ := Aside0.mk (bbl_ BK738.out hb)
        have n1_ := Aside0.mk (bbl_ BK739.out hb)
        have n2_ := Aside0.mk (bbl_ BK740.out hb)
        have n3_ := Aside0.mk (below_step (qq3 HB.out GE738.out GE739.out GE740.out) hb)
        clear BK738
        clear BK739
        clear BK740
        clear HB
        have BK738 := n0_
        have BK739 := n1_
        have BK740 := n2_
        have HB := n3_
        clear n0_ n1_ n2_ n3_
        (try clear hb)
        (try clear hb2)
        (try clear hk)
        (try clear hi)
        refine hK.out _ _ ⟨(blk_cell BK739.out 0).trans rfl, (blk_cell BK739.out 1).trans rfl, (blk_cell BK738.out 0).trans rfl, (blk_cell BK738.out 1).trans rfl⟩ (fun hHeld => ?_)
        clear hK K
        refine norm_ (a' := ?_) ?_ ?_
        rotate_left
        · show Act.put _ (some 19) _ = _
          simp only [Act.put, List.setIfInBounds_toArray, List.set_cons_zero, List.set_cons_succ, i64_w, i32_w]
          rfl
        refine one_ (i := 5) (N := some 20) #[true, true, true, true, true, true, false, false] rfl rfl (one_of HT_.out (by kernel_rfl)) (by decide) (fun K hK => ?_)
        refine goes_ Try.func90 (by kernel_rfl) rfl #[.agg #[.int .i64 t747, .int .i64 t748]] (by rfl) rfl rfl qq2 ?_
        with_reducible refine (impl_pair_point.calls t747 t748 t749 t750 _ A28.out).mono ?_
        rintro e w33 ⟨rfl, hb⟩
        refine ⟨_, rfl, ?_⟩
        have n0_ := Aside0.mk (bbl_ BK738.out hb)
        have n1_ := Aside0.mk (bbl_ BK739.out hb)
        have n2_ := Aside0.mk (bbl_ BK740.out hb)
        have n3_ := Aside0.mk (below_step (qq3 HB.out GE738.out GE739.out GE740.out) hb)
        clear BK738
        clear BK739
        clear BK740
        clear HB
        have BK738 := n0_
        have BK739 := n1_
        have BK740 := n2_
        have HB := n3_
        clear n0_ n1_ n2_ n3_
        (try clear hb)
        (try clear hb2)
        (try clear hk)
        (try clear hi)
        refine hK.out _ _ ⟨(blk_cell BK739.out 0).trans rfl, (blk_cell BK739.out 1).trans rfl, (blk_cell BK738.out 0).trans rfl, (blk_cell BK738.out 1).trans rfl⟩ (fun hHeld => ?_)
        clear hK K
        refine norm_ (a' := ?_) ?_ ?_
        rotate_left
        · show Act.put _ (some 20) _ = _
          simp only [Act.put, List.setIfInBounds_toArray, List.set_cons_zero, List.set_cons_succ, i64_w, i32_w]
          rfl
        refine one_ (i := 6) (N := none) #[true, true, true, true, true, true, true, false] rfl rfl (one_of HT_.out (by kernel_rfl)) (by decide) (fun K hK => ?_)
        have hs34 : w33.cell? ⟨gb740, 0, none⟩ = some (.int .i64 0) := (blk_cell BK740.out 0).trans rfl
        have hfs34 := blk_frozen BK740.out 0
        have hns34_0 := NB738_740.out
        have hns34_1 := NB739_740.out
        have hms34_0 := NB740_738.out
        have hms34_1 := NB740_739.out
        have hs35 : w33.cell? ⟨gb740, 1, none⟩ = some (.int .i64 0) := (blk_cell BK740.out 1).trans rfl
        have hfs35 := blk_frozen BK740.out 1
        have hns35_0 := NB738_740.out
        have hns35_1 := NB739_740.out
        have hms35_0 := NB740_738.out
        have hms35_1 := NB740_739.out
        refine skip_ (w1 := ?_) (by rfl) rfl ?_ ?_
        rotate_left
        · go_simp
          rfl
        refine hK.out _ _ ⟨((cell_far (p := ⟨gb740, _, none⟩) NB739_740.out _).trans (((cell_far (p := ⟨gb740, _, none⟩) NB739_740.out _).trans (hHeld.1)))), ((cell_far (p := ⟨gb740, _, none⟩) NB739_740.out _).trans (((cell_far (p := ⟨gb740, _, none⟩) NB739_740.out _).trans (hHeld.2.1)))), ((cell_far (p := ⟨gb740, _, none⟩) NB738_740.out _).trans (((cell_far (p := ⟨gb740, _, none⟩) NB738_740.out _).trans (hHeld.2.2.1)))), ((cell_far (p := ⟨gb740, _, none⟩) NB738_740.out _).trans (((cell_far (p := ⟨gb740, _, none⟩) NB738_740.out _).trans (hHeld.2.2.2))))⟩ (fun hHeld => ?_)
        clear hK K
        refine pure_ (i := 7) (N := some 5) #[true, true, true, true, true, true, true, true] rfl rfl (any_of HT_.out (by kernel_rfl)) (fun _ _ _ h => h) (Or.inl ⟨by rfl, pA_⟩) pB_ ?_
        refine done_ (done_of HT_.out (by kernel_rfl)) ?_
        try go_wp2
        refine bodyPost_ret (results_ct rfl _ _ gb740 32 #[.int .i64 t749, .int .i64 t750] (0, 0) _ rfl (by (with_reducible repeat (first | refine blk_drewN ?_ _ | refine blk_drew ?_ | refine blk_alloc ?_ _)); refine blk_put (cs := #[.int .i64 t749, .int .i64 0]) ?_ 1 _ rfl; (with_reducible repeat (first | refine blk_drewN ?_ _ | refine blk_drew ?_ | refine blk_alloc ?_ _)); refine blk_put (cs := #[.int .i64 0, .int .i64 0]) ?_ 0 _ rfl; (with_reducible repeat (first | refine blk_drewN ?_ _ | refine blk_drew ?_ | refine blk_alloc ?_ _)); exact BK740.out) Try.underlying32 rfl (by kernel_rfl)) rfl ?_
        exact ⟨qq12, qq3 HB.out GE738.out GE739.out GE740.out⟩

end Go.Proofs.Ytgdhgncdpmalcaa.Q
namespace Go.Proofs.Ytgdhgncdpmalcaa.Q
open Go.RowKit Go.Proofs.YtgdhgncdpmalcaaW.PrintWords Go.Proofs.YtgdhgncdpmalcaaW.PrintLast Go.Proofs.YtgdhgncdpmalcaaW.PrintMore
attribute [local go_sem] max2_int min2_int max_two min_two max_three min_three max_four min_four
set_option linter.unusedVariables false
set_option linter.unusedSimpArgs false

/-! ### spec_PointStep: function 88 -/
def spec_PointStep.f (a0_0 : Int) (a0_1 : Int) (a1_0 : Int) (a1_1 : Int) : Option (Int × Int × Bool) := (spec_PointValid.f a0_0 a0_1).bind fun t767 => (if t767 = true then ((spec_PointValid.f a1_0 a1_1).bind fun t768 => (if t768 = true then ((spec_l2Step.f a0_0 a0_1 a1_0 a1_1).bind fun bt769 => (some (bt769.1, bt769.2, true))) else (some (0, 0, false)))) else (some (0, 0, false)))
set_option maxHeartbeats 8000000 in
set_option maxRecDepth 100000 in
theorem spec_PointStep.calls (a0_0 : Int) (a0_1 : Int) (a1_0 : Int) (a1_1 : Int) (r1 : Int) (r2 : Int) (r3 : Bool) (w : World) (h : spec_PointStep.f a0_0 a0_1 a1_0 a1_1 = some (r1, r2, r3)) :
    Calls Try.prog 88 #[.agg #[.int .i64 a0_0, .int .i64 a0_1], .agg #[.int .i64 a1_0, .int .i64 a1_1]] w fun e w' => e = .returned (.tuple #[.agg #[.int .i64 r1, .int .i64 r2], .bool r3]) ∧ Below w.heap.size w w' := by
  have hu32 := Try.underlying32
  have HB := Aside0.mk (Below.refl w.heap.size w)
  have H : ((spec_PointValid.f a0_0 a0_1).bind fun t767 => (if t767 = true then ((spec_PointValid.f a1_0 a1_1).bind fun t768 => (if t768 = true then ((spec_l2Step.f a0_0 a0_1 a1_0 a1_1).bind fun bt769 => (some (bt769.1, bt769.2, true))) else (some (0, 0, false)))) else (some (0, 0, false)))) = some (r1, r2, r3) := h
  clear h
  replace H := Option.bind_eq_some_iff.mp H
  obtain ⟨t767, A30, H⟩ := H
  replace H : (if t767 = true then ((spec_PointValid.f a1_0 a1_1).bind fun t768 => (if t768 = true then ((spec_l2Step.f a0_0 a0_1 a1_0 a1_1).bind fun bt769 => (some (bt769.1, bt769.2, true))) else (some (0, 0, false)))) else (some (0, 0, false))) = some (r1, r2, r3) := H
  have A3 := Aside0.mk A30
  clear A30
  by_cases c4 : t767 = true
  · subst c4
    have H1 : ((spec_PointValid.f a1_0 a1_1).bind fun t768 => (if t768 = true then ((spec_l2Step.f a0_0 a0_1 a1_0 a1_1).bind fun bt769 => (some (bt769.1, bt769.2, true))) else (some (0, 0, false)))) = some (r1, r2, r3) := by rw [if_pos rfl] at H; exact H
    clear H
    have H := H1
    clear H1
    replace H := Option.bind_eq_some_iff.mp H
    obtain ⟨t768, A50, H⟩ := H
    replace H : (if t768 = true then ((spec_l2Step.f a0_0 a0_1 a1_0 a1_1).bind fun bt769 => (some (bt769.1, bt769.2, true))) else (some (0, 0, false))) = some (r1, r2, r3) := H
    have A5 := Aside0.mk A50
    clear A50
    by_cases c6 : t768 = true
    · subst c6
      have H1 : ((spec_l2Step.f a0_0 a0_1 a1_0 a1_1).bind fun bt769 => (some (bt769.1, bt769.2, true))) = some (r1, r2, r3) := by rw [if_pos rfl] at H; exact H
      clear H
      have H := H1
      clear H1
      replace H := Option.bind_eq_some_iff.mp H
      obtain ⟨⟨t769, t770⟩, A70, H⟩ := H
      replace H : (some (t769, t770, true)) = some (r1, r2, r3) := H
      have A7 := Aside0.mk A70
      clear A70
      simp only [Option.some.injEq, Prod.mk.injEq] at H
      obtain ⟨rfl, rfl, rfl⟩ := H
      go_enter Try.func88, Try.ntmps88
      go_wp2_with (first | ((with_reducible refine gate_dst (N := 2) rfl ?_); refine box_event ?hg (N := 2) ?hd (cs := #[.int .i64 a0_0, .int .i64 a0_1]) (t := 32) ?hr ?_; (case hd => rfl); (case hg => rfl); (case hr => exact qq16); intro gb764 hg w8 hbox hb; have n0_ := Aside0.mk (below_step qq1 hb); have n1_ := Aside0.mk (hbox); have n2_ := Aside0.mk ((qq30 : w.heap.size ≤ gb764)); have n3_ := Aside0.mk ((qq30 : w.heap.size ≤ gb764)); clear HB; have HB := n0_; have BK764 := n1_; have GW764 := n2_; have GE764 := n3_; clear n0_ n1_ n2_ n3_; clear hb hbox hg) | ((with_reducible refine gate_dst (N := 3) rfl ?_); refine box_event ?hg (N := 3) ?hd (cs := #[.int .i64 a1_0, .int .i64 a1_1]) (t := 32) ?hr ?_; (case hd => rfl); (case hg => rfl); (case hr => exact qq16); intro gb765 hg w9 hbox hb; have n0_ := Aside0.mk (bbl_ BK764.out hb); have n1_ := Aside0.mk (below_step (qq6 HB.out GE764.out) hb); have n2_ := Aside0.mk (hbox); have n3_ := Aside0.mk ((qq31 HB.out GE764.out : w.heap.size ≤ gb765)); have n4_ := Aside0.mk ((qq31 HB.out GE764.out : w.heap.size ≤ gb765)); have n5_ := Aside0.mk ((qq19 BK764.out : gb764 ≠ gb765)); have n6_ := Aside0.mk ((qq20 BK764.out : gb765 ≠ gb764)); clear BK764; clear HB; have BK764 := n0_; have HB := n1_; have BK765 := n2_; have GW765 := n3_; have GE765 := n4_; have NB764_765 := n5_; have NB765_764 := n6_; clear n0_ n1_ n2_ n3_ n4_ n5_ n6_; clear hb hbox hg) | ((with_reducible refine gate_dst (N := 4) rfl ?_); refine box_event ?hg (N := 4) ?hd (cs := #[.int .i64 0, .int .i64 0]) (t := 32) ?hr ?_; (case hd => rfl); (case hg => rfl); (case hr => exact qq16); intro gb766 hg w10 hbox hb; have n0_ := Aside0.mk (bbl_ BK764.out hb); have n1_ := Aside0.mk (bbl_ BK765.out hb); have n2_ := Aside0.mk (below_step (qq5 HB.out GE764.out GE765.out) hb); have n3_ := Aside0.mk (hbox); have n4_ := Aside0.mk ((qq32 HB.out GE764.out GE765.out : w.heap.size ≤ gb766)); have n5_ := Aside0.mk ((qq32 HB.out GE764.out GE765.out : w.heap.size ≤ gb766)); have n6_ := Aside0.mk ((qq19 BK764.out : gb764 ≠ gb766)); have n7_ := Aside0.mk ((qq20 BK764.out : gb766 ≠ gb764)); have n8_ := Aside0.mk ((qq19 BK765.out : gb765 ≠ gb766)); have n9_ := Aside0.mk ((qq20 BK765.out : gb766 ≠ gb765)); clear BK764; clear BK765; clear HB; have BK764 := n0_; have BK765 := n1_; have HB := n2_; have BK766 := n3_; have GW766 := n4_; have GE766 := n5_; have NB764_766 := n6_; have NB766_764 := n7_; have NB765_766 := n8_; have NB766_765 := n9_; clear n0_ n1_ n2_ n3_ n4_ n5_ n6_ n7_ n8_ n9_; clear hb hbox hg; have hnb11 := NB764_765.out; have hnc11 := NB765_764.out; have hnb12 := NB764_766.out; have hnc12 := NB766_764.out; have hcz13_0 : w10.cell? ⟨gb764, 0, none⟩ = some (.int .i64 a0_0) := (blk_cell BK764.out 0).trans rfl; have hcz13_1 : w10.cell? ⟨gb764, 1, none⟩ = some (.int .i64 a0_1) := (blk_cell BK764.out 1).trans rfl; have hfz13_0 := blk_frozen BK764.out 0; have hfz13_1 := blk_frozen BK764.out 1) | ((with_reducible refine gate_callee (f := 57) rfl ?_); refine goesL_ (some 7) rfl rfl Try.func57 (by kernel_rfl) rfl #[.agg #[.int .i64 a0_0, .int .i64 a0_1]] rfl qq2 ?_; (with_reducible refine (spec_PointValid.calls a0_0 a0_1 true _ A3.out).mono ?_); rintro e w14 ⟨rfl, hb⟩; refine ⟨_, rfl, ?_⟩; have n0_ := Aside0.mk (bbl_ BK764.out hb); have n1_ := Aside0.mk (bbl_ BK765.out hb); have n2_ := Aside0.mk (bbl_ BK766.out hb); have n3_ := Aside0.mk (below_step (qq3 HB.out GE764.out GE765.out GE766.out) hb); clear BK764; clear BK765; clear BK766; clear HB; have BK764 := n0_; have BK765 := n1_; have BK766 := n2_; have HB := n3_; clear n0_ n1_ n2_ n3_; (try clear hb); (try clear hb2); (try clear hk); (try clear hi); have hnb15 := NB765_766.out; have hnc15 := NB766_765.out; have hcz16_0 : w14.cell? ⟨gb765, 0, none⟩ = some (.int .i64 a1_0) := (blk_cell BK765.out 0).trans rfl; have hcz16_1 : w14.cell? ⟨gb765, 1, none⟩ = some (.int .i64 a1_1) := (blk_cell BK765.out 1).trans rfl; have hfz16_0 := blk_frozen BK765.out 0; have hfz16_1 := blk_frozen BK765.out 1) | (go_at_call 57; (with_reducible refine (spec_PointValid.calls a1_0 a1_1 true _ A5.out).mono ?_); rintro e w17 ⟨rfl, hb⟩; have n0_ := Aside0.mk (bbl_ BK764.out hb); have n1_ := Aside0.mk (bbl_ BK765.out hb); have n2_ := Aside0.mk (bbl_ BK766.out hb); have n3_ := Aside0.mk (below_step (qq3 HB.out GE764.out GE765.out GE766.out) hb); clear BK764; clear BK765; clear BK766; clear HB; have BK764 := n0_; have BK765 := n1_; have BK766 := n2_; have HB := n3_; clear n0_ n1_ n2_ n3_; (try clear hb); (try clear hb2); (try clear hk); (try clear hi); have hcz18_0 : w17.cell? ⟨gb764, 0, none⟩ = some (.int .i64 a0_0) := (blk_cell BK764.out 0).trans rfl; have hcz18_1 : w17.cell? ⟨gb764, 1, none⟩ = some (.int .i64 a0_1) := (blk_cell BK764.out 1).trans rfl; have hfz18_0 := blk_frozen BK764.out 0; have hfz18_1 := blk_frozen BK764.out 1; have hcz19_0 : w17.cell? ⟨gb765, 0, none⟩ = some (.int .i64 a1_0) := (blk_cell BK765.out 0).trans rfl; have hcz19_1 : w17.cell? ⟨gb765, 1, none⟩ = some (.int .i64 a1_1) := (blk_cell BK765.out 1).trans rfl; have hfz19_0 := blk_frozen BK765.out 0; have hfz19_1 := blk_frozen BK765.out 1) | ((with_reducible refine gate_callee (f := 77) rfl ?_); refine goesL_ (some 17) rfl rfl Try.func77 (by kernel_rfl) rfl #[.agg #[.int .i64 a0_0, .int .i64 a0_1], .agg #[.int .i64 a1_0, .int .i64 a1_1]] rfl qq2 ?_; (with_reducible refine (spec_l2Step.calls a0_0 a0_1 a1_0 a1_1 t769 t770 _ A7.out).mono ?_); rintro e w20 ⟨rfl, hb⟩; refine ⟨_, rfl, ?_⟩; have n0_ := Aside0.mk (bbl_ BK764.out hb); have n1_ := Aside0.mk (bbl_ BK765.out hb); have n2_ := Aside0.mk (bbl_ BK766.out hb); have n3_ := Aside0.mk (below_step (qq3 HB.out GE764.out GE765.out GE766.out) hb); clear BK764; clear BK765; clear BK766; clear HB; have BK764 := n0_; have BK765 := n1_; have BK766 := n2_; have HB := n3_; clear n0_ n1_ n2_ n3_; (try clear hb); (try clear hb2); (try clear hk); (try clear hi); have hcz21_0 : w20.cell? ⟨gb766, 0, none⟩ = some (.int .i64 0) := (blk_cell BK766.out 0).trans rfl; have hcz21_1 : w20.cell? ⟨gb766, 1, none⟩ = some (.int .i64 0) := (blk_cell BK766.out 1).trans rfl; have hfz21_0 := blk_frozen BK766.out 0; have hfz21_1 := blk_frozen BK766.out 1))
      refine bodyPost_ret (results_ct rfl _ _ gb766 32 #[.int .i64 t769, .int .i64 t770] (0, 0) _ rfl (by (with_reducible repeat (first | refine blk_drewN ?_ _ | refine blk_drew ?_ | refine blk_alloc ?_ _)); refine blk_put (cs := #[.int .i64 t769, .int .i64 0]) ?_ 1 _ rfl; (with_reducible repeat (first | refine blk_drewN ?_ _ | refine blk_drew ?_ | refine blk_alloc ?_ _)); refine blk_put (cs := #[.int .i64 0, .int .i64 0]) ?_ 0 _ rfl; (with_reducible repeat (first | refine blk_drewN ?_ _ | refine blk_drew ?_ | refine blk_alloc ?_ _)); exact BK766.out) Try.underlying32 rfl (by kernel_rfl)) rfl ?_
      exact ⟨qq12, qq3 HB.out GE764.out GE765.out GE766.out⟩
    · replace c6 := Bool.eq_false_iff.mpr c6
      subst c6
      have H1 : (some (0, 0, false)) = some (r1, r2, r3) := by rw [if_neg (show ¬ (false = true) by decide)] at H; exact H
      clear H
      have H := H1
      clear H1
      simp only [Option.some.injEq, Prod.mk.injEq] at H
      obtain ⟨rfl, rfl, rfl⟩ := H
      go_enter Try.func88, Try.ntmps88
      go_wp2_with (first | ((with_reducible refine gate_dst (N := 2) rfl ?_); refine box_event ?hg (N := 2) ?hd (cs := #[.int .i64 a0_0, .int .i64 a0_1]) (t := 32) ?hr ?_; (case hd => rfl); (case hg => rfl); (case hr => exact qq16); intro gb764 hg w22 hbox hb; have n0_ := Aside0.mk (below_step qq1 hb); have n1_ := Aside0.mk (hbox); have n2_ := Aside0.mk ((qq30 : w.heap.size ≤ gb764)); have n3_ := Aside0.mk ((qq30 : w.heap.size ≤ gb764)); clear HB; have HB := n0_; have BK764 := n1_; have GW764 := n2_; have GE764 := n3_; clear n0_ n1_ n2_ n3_; clear hb hbox hg) | ((with_reducible refine gate_dst (N := 3) rfl ?_); refine box_event ?hg (N := 3) ?hd (cs := #[.int .i64 a1_0, .int .i64 a1_1]) (t := 32) ?hr ?_; (case hd => rfl); (case hg => rfl); (case hr => exact qq16); intro gb765 hg w23 hbox hb; have n0_ := Aside0.mk (bbl_ BK764.out hb); have n1_ := Aside0.mk (below_step (qq6 HB.out GE764.out) hb); have n2_ := Aside0.mk (hbox); have n3_ := Aside0.mk ((qq31 HB.out GE764.out : w.heap.size ≤ gb765)); have n4_ := Aside0.mk ((qq31 HB.out GE764.out : w.heap.size ≤ gb765)); have n5_ := Aside0.mk ((qq19 BK764.out : gb764 ≠ gb765)); have n6_ := Aside0.mk ((qq20 BK764.out : gb765 ≠ gb764)); clear BK764; clear HB; have BK764 := n0_; have HB := n1_; have BK765 := n2_; have GW765 := n3_; have GE765 := n4_; have NB764_765 := n5_; have NB765_764 := n6_; clear n0_ n1_ n2_ n3_ n4_ n5_ n6_; clear hb hbox hg) | ((with_reducible refine gate_dst (N := 4) rfl ?_); refine box_event ?hg (N := 4) ?hd (cs := #[.int .i64 0, .int .i64 0]) (t := 32) ?hr ?_; (case hd => rfl); (case hg => rfl); (case hr => exact qq16); intro gb766 hg w24 hbox hb; have n0_ := Aside0.mk (bbl_ BK764.out hb); have n1_ := Aside0.mk (bbl_ BK765.out hb); have n2_ := Aside0.mk (below_step (qq5 HB.out GE764.out GE765.out) hb); have n3_ := Aside0.mk (hbox); have n4_ := Aside0.mk ((qq32 HB.out GE764.out GE765.out : w.heap.size ≤ gb766)); have n5_ := Aside0.mk ((qq32 HB.out GE764.out GE765.out : w.heap.size ≤ gb766)); have n6_ := Aside0.mk ((qq19 BK764.out : gb764 ≠ gb766)); have n7_ := Aside0.mk ((qq20 BK764.out : gb766 ≠ gb764)); have n8_ := Aside0.mk ((qq19 BK765.out : gb765 ≠ gb766)); have n9_ := Aside0.mk ((qq20 BK765.out : gb766 ≠ gb765)); clear BK764; clear BK765; clear HB; have BK764 := n0_; have BK765 := n1_; have HB := n2_; have BK766 := n3_; have GW766 := n4_; have GE766 := n5_; have NB764_766 := n6_; have NB766_764 := n7_; have NB765_766 := n8_; have NB766_765 := n9_; clear n0_ n1_ n2_ n3_ n4_ n5_ n6_ n7_ n8_ n9_; clear hb hbox hg; have hnb25 := NB764_765.out; have hnc25 := NB765_764.out; have hnb26 := NB764_766.out; have hnc26 := NB766_764.out; have hcz27_0 : w24.cell? ⟨gb764, 0, none⟩ = some (.int .i64 a0_0) := (blk_cell BK764.out 0).trans rfl; have hcz27_1 : w24.cell? ⟨gb764, 1, none⟩ = some (.int .i64 a0_1) := (blk_cell BK764.out 1).trans rfl; have hfz27_0 := blk_frozen BK764.out 0; have hfz27_1 := blk_frozen BK764.out 1) | ((with_reducible refine gate_callee (f := 57) rfl ?_); refine goesL_ (some 7) rfl rfl Try.func57 (by kernel_rfl) rfl #[.agg #[.int .i64 a0_0, .int .i64 a0_1]] rfl qq2 ?_; (with_reducible refine (spec_PointValid.calls a0_0 a0_1 true _ A3.out).mono ?_); rintro e w28 ⟨rfl, hb⟩; refine ⟨_, rfl, ?_⟩; have n0_ := Aside0.mk (bbl_ BK764.out hb); have n1_ := Aside0.mk (bbl_ BK765.out hb); have n2_ := Aside0.mk (bbl_ BK766.out hb); have n3_ := Aside0.mk (below_step (qq3 HB.out GE764.out GE765.out GE766.out) hb); clear BK764; clear BK765; clear BK766; clear HB; have BK764 := n0_; have BK765 := n1_; have BK766 := n2_; have HB := n3_; clear n0_ n1_ n2_ n3_; (try clear hb); (try clear hb2); (try clear hk); (try clear hi); have hnb29 := NB765_766.out; have hnc29 := NB766_765.out; have hcz30_0 : w28.cell? ⟨gb765, 0, none⟩ = some (.int .i64 a1_0) := (blk_cell BK765.out 0).trans rfl; have hcz30_1 : w28.cell? ⟨gb765, 1, none⟩ = some (.int .i64 a1_1) := (blk_cell BK765.out 1).trans rfl; have hfz30_0 := blk_frozen BK765.out 0; have hfz30_1 := blk_frozen BK765.out 1) | (go_at_call 57; (with_reducible refine (spec_PointValid.calls a1_0 a1_1 false _ A5.out).mono ?_); rintro e w31 ⟨rfl, hb⟩; have n0_ := Aside0.mk (bbl_ BK764.out hb); have n1_ := Aside0.mk (bbl_ BK765.out hb); have n2_ := Aside0.mk (bbl_ BK766.out hb); have n3_ := Aside0.mk (below_step (qq3 HB.out GE764.out GE765.out GE766.out) hb); clear BK764; clear BK765; clear BK766; clear HB; have BK764 := n0_; have BK765 := n1_; have BK766 := n2_; have HB := n3_; clear n0_ n1_ n2_ n3_; (try clear hb); (try clear hb2); (try clear hk); (try clear hi); have hcz32_0 : w31.cell? ⟨gb766, 0, none⟩ = some (.int .i64 0) := (blk_cell BK766.out 0).trans rfl; have hcz32_1 : w31.cell? ⟨gb766, 1, none⟩ = some (.int .i64 0) := (blk_cell BK766.out 1).trans rfl; have hfz32_0 := blk_frozen BK766.out 0; have hfz32_1 := blk_frozen BK766.out 1))
      refine bodyPost_ret (results_ct rfl _ _ gb766 32 #[.int .i64 0, .int .i64 0] (0, 0) _ rfl (qq33 BK766.out) Try.underlying32 rfl (by kernel_rfl)) rfl ?_
      exact ⟨qq12, qq3 HB.out GE764.out GE765.out GE766.out⟩
  · replace c4 := Bool.eq_false_iff.mpr c4
    subst c4
    have H1 : (some (0, 0, false)) = some (r1, r2, r3) := by rw [if_neg (show ¬ (false = true) by decide)] at H; exact H
    clear H
    have H := H1
    clear H1
    simp only [Option.some.injEq, Prod.mk.injEq] at H
    obtain ⟨rfl, rfl, rfl⟩ := H
    go_enter Try.func88, Try.ntmps88
    go_wp2_with (first | ((with_reducible refine gate_dst (N := 2) rfl ?_); refine box_event ?hg (N := 2) ?hd (cs := #[.int .i64 a0_0, .int .i64 a0_1]) (t := 32) ?hr ?_; (case hd => rfl); (case hg => rfl); (case hr => exact qq16); intro gb764 hg w33 hbox hb; have n0_ := Aside0.mk (below_step qq1 hb); have n1_ := Aside0.mk (hbox); have n2_ := Aside0.mk ((qq30 : w.heap.size ≤ gb764)); have n3_ := Aside0.mk ((qq30 : w.heap.size ≤ gb764)); clear HB; have HB := n0_; have BK764 := n1_; have GW764 := n2_; have GE764 := n3_; clear n0_ n1_ n2_ n3_; clear hb hbox hg) | ((with_reducible refine gate_dst (N := 3) rfl ?_); refine box_event ?hg (N := 3) ?hd (cs := #[.int .i64 a1_0, .int .i64 a1_1]) (t := 32) ?hr ?_; (case hd => rfl); (case hg => rfl); (case hr => exact qq16); intro gb765 hg w34 hbox hb; have n0_ := Aside0.mk (bbl_ BK764.out hb); have n1_ := Aside0.mk (below_step (qq6 HB.out GE764.out) hb); have n2_ := Aside0.mk (hbox); have n3_ := Aside0.mk ((qq31 HB.out GE764.out : w.heap.size ≤ gb765)); have n4_ := Aside0.mk ((qq31 HB.out GE764.out : w.heap.size ≤ gb765)); have n5_ := Aside0.mk ((qq19 BK764.out : gb764 ≠ gb765)); have n6_ := Aside0.mk ((qq20 BK764.out : gb765 ≠ gb764)); clear BK764; clear HB; have BK764 := n0_; have HB := n1_; have BK765 := n2_; have GW765 := n3_; have GE765 := n4_; have NB764_765 := n5_; have NB765_764 := n6_; clear n0_ n1_ n2_ n3_ n4_ n5_ n6_; clear hb hbox hg) | ((with_reducible refine gate_dst (N := 4) rfl ?_); refine box_event ?hg (N := 4) ?hd (cs := #[.int .i64 0, .int .i64 0]) (t := 32) ?hr ?_; (case hd => rfl); (case hg => rfl); (case hr => exact qq16); intro gb766 hg w35 hbox hb; have n0_ := Aside0.mk (bbl_ BK764.out hb); have n1_ := Aside0.mk (bbl_ BK765.out hb); have n2_ := Aside0.mk (below_step (qq5 HB.out GE764.out GE765.out) hb); have n3_ := Aside0.mk (hbox); have n4_ := Aside0.mk ((qq32 HB.out GE764.out GE765.out : w.heap.size ≤ gb766)); have n5_ := Aside0.mk ((qq32 HB.out GE764.out GE765.out : w.heap.size ≤ gb766)); have n6_ := Aside0.mk ((qq19 BK764.out : gb764 ≠ gb766)); have n7_ := Aside0.mk ((qq20 BK764.out : gb766 ≠ gb764)); have n8_ := Aside0.mk ((qq19 BK765.out : gb765 ≠ gb766)); have n9_ := Aside0.mk ((qq20 BK765.out : gb766 ≠ gb765)); clear BK764; clear BK765; clear HB; have BK764 := n0_; have BK765 := n1_; have HB := n2_; have BK766 := n3_; have GW766 := n4_; have GE766 := n5_; have NB764_766 := n6_; have NB766_764 := n7_; have NB765_766 := n8_; have NB766_765 := n9_; clear n0_ n1_ n2_ n3_ n4_ n5_ n6_ n7_ n8_ n9_; clear hb hbox hg; have hnb36 := NB764_765.out; have hnc36 := NB765_764.out; have hnb37 := NB764_766.out; have hnc37 := NB766_764.out; have hcz38_0 : w35.cell? ⟨gb764, 0, none⟩ = some (.int .i64 a0_0) := (blk_cell BK764.out 0).trans rfl; have hcz38_1 : w35.cell? ⟨gb764, 1, none⟩ = some (.int .i64 a0_1) := (blk_cell BK764.out 1).trans rfl; have hfz38_0 := blk_frozen BK764.out 0; have hfz38_1 := blk_frozen BK764.out 1) | ((with_reducible refine gate_callee (f := 57) rfl ?_); refine goesL_ (some 7) rfl rfl Try.func57 (by kernel_rfl) rfl #[.agg #[.int .i64 a0_0, .int .i64 a0_1]] rfl qq2 ?_; (with_reducible refine (spec_PointValid.calls a0_0 a0_1 false _ A3.out).mono ?_); rintro e w39 ⟨rfl, hb⟩; refine ⟨_, rfl, ?_⟩; have n0_ := Aside0.mk (bbl_ BK764.out hb); have n1_ := Aside0.mk (bbl_ BK765.out hb); have n2_ := Aside0.mk (bbl_ BK766.out hb); have n3_ := Aside0.mk (below_step (qq3 HB.out GE764.out GE765.out GE766.out) hb); clear BK764; clear BK765; clear BK766; clear HB; have BK764 := n0_; have BK765 := n1_; have BK766 := n2_; have HB := n3_; clear n0_ n1_ n2_ n3_; (try clear hb); (try clear hb2); (try clear hk); (try clear hi); have hnb40 := NB766_765.out; have hnc40 := NB765_766.out; have hcz41_0 : w39.cell? ⟨gb766, 0, none⟩ = some (.int .i64 0) := (blk_cell BK766.out 0).trans rfl; have hcz41_1 : w39.cell? ⟨gb766, 1, none⟩ = some (.int .i64 0) := (blk_cell BK766.out 1).trans rfl; have hfz41_0 := blk_frozen BK766.out 0; have hfz41_1 := blk_frozen BK766.out 1))
    refine bodyPost_ret (results_ct rfl _ _ gb766 32 #[.int .i64 0, .int .i64 0] (0, 0) _ rfl (qq33 BK766.out) Try.underlying32 rfl (by kernel_rfl)) rfl ?_
    exact ⟨qq12, qq3 HB.out GE764.out GE765.out GE766.out⟩

end Go.Proofs.Ytgdhgncdpmalcaa.Q
namespace Go.Proofs.Ytgdhgncdpmalcaa.Pure
open Go.RowKit Go.Proofs.Ytgdhgncdpmalcaa.Q Go.Proofs.YtgdhgncdpmalcaaW.PrintWords Go.Proofs.YtgdhgncdpmalcaaW.PrintLast Go.Proofs.YtgdhgncdpmalcaaW.PrintMore

/-- What PointStep answers. -/
def stepR (a b c d : Int) : Int × Int × Bool := if PV a b = true ∧ PV c d = true then (c - a, d - b, true) else (0, 0, false)
theorem stepR_yes {a b c d : Int} (h : PV a b = true) (h' : PV c d = true) : stepR a b c d = (c - a, d - b, true) := if_pos ⟨h, h'⟩
theorem stepR_no {a b c d : Int} (h : ¬ (PV a b = true ∧ PV c d = true)) : stepR a b c d = (0, 0, false) := if_neg h

theorem spec_PointStep_eq (a b c d : Int) : spec_PointStep.f a b c d = some (stepR a b c d) := by
  simp only [spec_PointStep.f, spec_PointValid_eq, Option.bind_some, spec_l2Step.f]
  by_cases h : PV a b = true
  · by_cases h' : PV c d = true
    · rw [if_pos h, if_pos h', stepR_yes h h']
      have := PV_iff.1 h; have := PV_iff.1 h'
      rw [w64 (by omega) (by omega), w64 (by omega) (by omega)]
    · rw [if_pos h, if_neg h', stepR_no (by simp [h'])]
  · rw [if_neg h, stepR_no (by simp [h])]

theorem impl_PointStep_eq (k : Nat) (a b c d : Int) : impl_PointStep.f (k + 1) a b c d = some (stepR a b c d) := by
  simp only [impl_PointStep.f, impl_PointValid_eq, Option.bind_some, impl_PointStep.j0, impl_pairOf.f, impl_pair_minus.f, impl_pair_point.f]
  by_cases h : PV a b = true
  · by_cases h' : PV c d = true
    · rw [if_pos h, if_neg (by simp [h']), stepR_yes h h']
      have := PV_iff.1 h; have := PV_iff.1 h'
      rw [w64 (by omega) (by omega), w64 (by omega) (by omega)]
    · rw [if_pos h, if_pos (by simp [h']), stepR_no (by simp [h'])]
  · rw [if_neg h, if_pos trivial, stepR_no (by simp [h])]

end Go.Proofs.Ytgdhgncdpmalcaa.Pure
namespace Go.Proofs.Ytgdhgncdpmalcaa.Q
open Go.RowKit Go.Proofs.YtgdhgncdpmalcaaW.PrintWords Go.Proofs.YtgdhgncdpmalcaaW.PrintLast Go.Proofs.YtgdhgncdpmalcaaW.PrintMore
attribute [local go_sem] max2_int min2_int max_two min_two max_three min_three max_four min_four
set_option linter.unusedVariables false
set_option linter.unusedSimpArgs false

/-! ### impl_PointGaps: function 81 -/
def impl_PointGaps.f (k : Nat) (a0_0 : Int) (a0_1 : Int) (a1_0 : Int) (a1_1 : Int) : Option (Int) := (impl_PointStep.f k a0_0 a0_1 a1_0 a1_1).bind fun bt757 => (if bt757.2.2 = true then ((impl_pairOf.f bt757.1 bt757.2.1).bind fun bt761 => ((impl_pair_gcd.f k bt761.1 bt761.2).bind fun t763 => (some t763))) else (some (-1)))
set_option maxHeartbeats 8000000 in
set_option maxRecDepth 100000 in
theorem impl_PointGaps.calls (k : Nat) (a0_0 : Int) (a0_1 : Int) (a1_0 : Int) (a1_1 : Int) (r : Int) (w : World) (h : impl_PointGaps.f k a0_0 a0_1 a1_0 a1_1 = some r) :
    Calls Try.prog 81 #[.agg #[.int .i64 a0_0, .int .i64 a0_1], .agg #[.int .i64 a1_0, .int .i64 a1_1]] w fun e w' => e = .returned (.int .i64 r) ∧ Below w.heap.size w w' := by
  have hu32 := Try.underlying32
  have HB := Aside0.mk (Below.refl w.heap.size w)
  have H : ((impl_PointStep.f k a0_0 a0_1 a1_0 a1_1).bind fun bt757 => (if bt757.2.2 = true then ((impl_pairOf.f bt757.1 bt757.2.1).bind fun bt761 => ((impl_pair_gcd.f k bt761.1 bt761.2).bind fun t763 => (some t763))) else (some (-1)))) = some r := h
  clear h
  replace H := Option.bind_eq_some_iff.mp H
  obtain ⟨⟨t757, t758, t759⟩, A30, H⟩ := H
  replace H : (if t759 = true then ((impl_pairOf.f t757 t758).bind fun bt761 => ((impl_pair_gcd.f k bt761.1 bt761.2).bind fun t763 => (some t763))) else (some (-1))) = some r := H
  have A3 := Aside0.mk A30
  clear A30
  by_cases c4 : t759 = true
  · subst c4
    have H1 : ((impl_pairOf.f t757 t758).bind fun bt761 => ((impl_pair_gcd.f k bt761.1 bt761.2).bind fun t763 => (some t763))) = some r := by rw [if_pos rfl] at H; exact H
    clear H
    have H := H1
    clear H1
    replace H := Option.bind_eq_some_iff.mp H
    obtain ⟨⟨t761, t762⟩, A50, H⟩ := H
    replace H : ((impl_pair_gcd.f k t761 t762).bind fun t763 => (some t763)) = some r := H
    have A5 := Aside0.mk A50
    clear A50
    replace H := Option.bind_eq_some_iff.mp H
    obtain ⟨t763, A60, H⟩ := H
    replace H : (some t763) = some r := H
    have A6 := Aside0.mk A60
    clear A60
    obtain rfl := Option.some.inj H
    go_enter Try.func81, Try.ntmps81
    go_wp2_with (first | ((with_reducible refine gate_dst (N := 2) rfl ?_); refine box_event ?hg (N := 2) ?hd (cs := #[.int .i64 a0_0, .int .i64 a0_1]) (t := 32) ?hr ?_; (case hd => rfl); (case hg => rfl); (case hr => exact qq16); intro gb755 hg w7 hbox hb; have n0_ := Aside0.mk (below_step qq1 hb); have n1_ := Aside0.mk (hbox); have n2_ := Aside0.mk ((qq30 : w.heap.size ≤ gb755)); have n3_ := Aside0.mk ((qq30 : w.heap.size ≤ gb755)); clear HB; have HB := n0_; have BK755 := n1_; have GW755 := n2_; have GE755 := n3_; clear n0_ n1_ n2_ n3_; clear hb hbox hg) | ((with_reducible refine gate_dst (N := 3) rfl ?_); refine box_event ?hg (N := 3) ?hd (cs := #[.int .i64 a1_0, .int .i64 a1_1]) (t := 32) ?hr ?_; (case hd => rfl); (case hg => rfl); (case hr => exact qq16); intro gb756 hg w8 hbox hb; have n0_ := Aside0.mk (bbl_ BK755.out hb); have n1_ := Aside0.mk (below_step (qq6 HB.out GE755.out) hb); have n2_ := Aside0.mk (hbox); have n3_ := Aside0.mk ((qq31 HB.out GE755.out : w.heap.size ≤ gb756)); have n4_ := Aside0.mk ((qq31 HB.out GE755.out : w.heap.size ≤ gb756)); have n5_ := Aside0.mk ((qq19 BK755.out : gb755 ≠ gb756)); have n6_ := Aside0.mk ((qq20 BK755.out : gb756 ≠ gb755)); clear BK755; clear HB; have BK755 := n0_; have HB := n1_; have BK756 := n2_; have GW756 := n3_; have GE756 := n4_; have NB755_756 := n5_; have NB756_755 := n6_; clear n0_ n1_ n2_ n3_ n4_ n5_ n6_; clear hb hbox hg; have hnb9 := NB755_756.out; have hnc9 := NB756_755.out; have hcz10_0 : w8.cell? ⟨gb755, 0, none⟩ = some (.int .i64 a0_0) := (blk_cell BK755.out 0).trans rfl; have hcz10_1 : w8.cell? ⟨gb755, 1, none⟩ = some (.int .i64 a0_1) := (blk_cell BK755.out 1).trans rfl; have hfz10_0 := blk_frozen BK755.out 0; have hfz10_1 := blk_frozen BK755.out 1; have hcz11_0 : w8.cell? ⟨gb756, 0, none⟩ = some (.int .i64 a1_0) := (blk_cell BK756.out 0).trans rfl; have hcz11_1 : w8.cell? ⟨gb756, 1, none⟩ = some (.int .i64 a1_1) := (blk_cell BK756.out 1).trans rfl; have hfz11_0 := blk_frozen BK756.out 0; have hfz11_1 := blk_frozen BK756.out 1) | ((with_reducible refine gate_callee (f := 86) rfl ?_); refine goesL_ (some 10) rfl rfl Try.func86 (by kernel_rfl) rfl #[.agg #[.int .i64 a0_0, .int .i64 a0_1], .agg #[.int .i64 a1_0, .int .i64 a1_1]] rfl qq2 ?_; (with_reducible refine (impl_PointStep.calls k a0_0 a0_1 a1_0 a1_1 t757 t758 true _ A3.out).mono ?_); rintro e w12 ⟨rfl, hb⟩; refine ⟨_, rfl, ?_⟩; have n0_ := Aside0.mk (bbl_ BK755.out hb); have n1_ := Aside0.mk (bbl_ BK756.out hb); have n2_ := Aside0.mk (below_step (qq5 HB.out GE755.out GE756.out) hb); clear BK755; clear BK756; clear HB; have BK755 := n0_; have BK756 := n1_; have HB := n2_; clear n0_ n1_ n2_; (try clear hb); (try clear hb2); (try clear hk); (try clear hi)) | ((with_reducible refine gate_dst (N := 5) rfl ?_); refine box_event ?hg (N := 5) ?hd (cs := #[.int .i64 0, .int .i64 0]) (t := 32) ?hr ?_; (case hd => rfl); (case hg => rfl); (case hr => exact qq16); intro gb760 hg w13 hbox hb; have n0_ := Aside0.mk (bbl_ BK755.out hb); have n1_ := Aside0.mk (bbl_ BK756.out hb); have n2_ := Aside0.mk (below_step (qq5 HB.out GE755.out GE756.out) hb); have n3_ := Aside0.mk (hbox); have n4_ := Aside0.mk ((qq32 HB.out GE755.out GE756.out : w.heap.size ≤ gb760)); have n5_ := Aside0.mk ((qq32 HB.out GE755.out GE756.out : w.heap.size ≤ gb760)); have n6_ := Aside0.mk ((qq19 BK755.out : gb755 ≠ gb760)); have n7_ := Aside0.mk ((qq20 BK755.out : gb760 ≠ gb755)); have n8_ := Aside0.mk ((qq19 BK756.out : gb756 ≠ gb760)); have n9_ := Aside0.mk ((qq20 BK756.out : gb760 ≠ gb756)); clear BK755; clear BK756; clear HB; have BK755 := n0_; have BK756 := n1_; have HB := n2_; have BK760 := n3_; have GW760 := n4_; have GE760 := n5_; have NB755_760 := n6_; have NB760_755 := n7_; have NB756_760 := n8_; have NB760_756 := n9_; clear n0_ n1_ n2_ n3_ n4_ n5_ n6_ n7_ n8_ n9_; clear hb hbox hg; have hnb14 := NB760_755.out; have hnc14 := NB755_760.out; have hnb15 := NB760_756.out; have hnc15 := NB756_760.out; have hcz16_0 : w13.cell? ⟨gb760, 0, none⟩ = some (.int .i64 0) := (blk_cell BK760.out 0).trans rfl; have hcz16_1 : w13.cell? ⟨gb760, 1, none⟩ = some (.int .i64 0) := (blk_cell BK760.out 1).trans rfl; have hfz16_0 := blk_frozen BK760.out 0; have hfz16_1 := blk_frozen BK760.out 1) | ((with_reducible refine gate_callee (f := 53) rfl ?_); refine goesL_ (some 16) rfl rfl Try.func53 (by kernel_rfl) rfl #[.agg #[.int .i64 t757, .int .i64 t758]] rfl qq2 ?_; (with_reducible refine (impl_pairOf.calls t757 t758 t761 t762 _ A5.out).mono ?_); rintro e w17 ⟨rfl, hb⟩; refine ⟨_, rfl, ?_⟩; have n0_ := Aside0.mk (blk_below (g := gb755) (o := .cells #[.int .i64 a0_0, .int .i64 a0_1] 32 (0, 0)) (qq10 NB755_760.out BK755.out) hb); have n1_ := Aside0.mk (blk_below (g := gb756) (o := .cells #[.int .i64 a1_0, .int .i64 a1_1] 32 (0, 0)) (qq10 NB756_760.out BK756.out) hb); have n2_ := Aside0.mk (blk_below (g := gb760) (o := .cells #[.int .i64 t757, .int .i64 t758] 32 (0, 0)) (by (with_reducible repeat (first | refine blk_drewN ?_ _ | refine blk_drew ?_ | refine blk_alloc ?_ _)); refine blk_put (cs := #[.int .i64 t757, .int .i64 0]) ?_ 1 _ rfl; (with_reducible repeat (first | refine blk_drewN ?_ _ | refine blk_drew ?_ | refine blk_alloc ?_ _)); refine blk_put (cs := #[.int .i64 0, .int .i64 0]) ?_ 0 _ rfl; (with_reducible repeat (first | refine blk_drewN ?_ _ | refine blk_drew ?_ | refine blk_alloc ?_ _)); exact BK760.out) hb); have n3_ := Aside0.mk (below_step (qq3 HB.out GE755.out GE756.out GE760.out) hb); clear BK755; clear BK756; clear BK760; clear HB; have BK755 := n0_; have BK756 := n1_; have BK760 := n2_; have HB := n3_; clear n0_ n1_ n2_ n3_; (try clear hb); (try clear hb2); (try clear hk); (try clear hi)) | ((with_reducible refine gate_callee (f := 87) rfl ?_); refine goesL_ (some 17) rfl rfl Try.func87 (by kernel_rfl) rfl #[.agg #[.int .i64 t761, .int .i64 t762]] rfl qq2 ?_; (with_reducible refine (impl_pair_gcd.calls k t761 t762 t763 _ A6.out).mono ?_); rintro e w18 ⟨rfl, hb⟩; refine ⟨_, rfl, ?_⟩; have n0_ := Aside0.mk (bbl_ BK755.out hb); have n1_ := Aside0.mk (bbl_ BK756.out hb); have n2_ := Aside0.mk (bbl_ BK760.out hb); have n3_ := Aside0.mk (below_step (qq3 HB.out GE755.out GE756.out GE760.out) hb); clear BK755; clear BK756; clear BK760; clear HB; have BK755 := n0_; have BK756 := n1_; have BK760 := n2_; have HB := n3_; clear n0_ n1_ n2_ n3_; (try clear hb); (try clear hb2); (try clear hk); (try clear hi)))
    go_ret
    exact ⟨qq12, qq3 HB.out GE755.out GE756.out GE760.out⟩
  · replace c4 := Bool.eq_false_iff.mpr c4
    subst c4
    have H1 : (some (-1)) = some r := by rw [if_neg (show ¬ (false = true) by decide)] at H; exact H
    clear H
    have H := H1
    clear H1
    obtain rfl := Option.some.inj H
    go_enter Try.func81, Try.ntmps81
    go_wp2_with (first | ((with_reducible refine gate_dst (N := 2) rfl ?_); refine box_event ?hg (N := 2) ?hd (cs := #[.int .i64 a0_0, .int .i64 a0_1]) (t := 32) ?hr ?_; (case hd => rfl); (case hg => rfl); (case hr => exact qq16); intro gb755 hg w19 hbox hb; have n0_ := Aside0.mk (below_step qq1 hb); have n1_ := Aside0.mk (hbox); have n2_ := Aside0.mk ((qq30 : w.heap.size ≤ gb755)); have n3_ := Aside0.mk ((qq30 : w.heap.size ≤ gb755)); clear HB; have HB := n0_; have BK755 := n1_; have GW755 := n2_; have GE755 := n3_; clear n0_ n1_ n2_ n3_; clear hb hbox hg) | ((with_reducible refine gate_dst (N := 3) rfl ?_); refine box_event ?hg (N := 3) ?hd (cs := #[.int .i64 a1_0, .int .i64 a1_1]) (t := 32) ?hr ?_; (case hd => rfl); (case hg => rfl); (case hr => exact qq16); intro gb756 hg w20 hbox hb; have n0_ := Aside0.mk (bbl_ BK755.out hb); have n1_ := Aside0.mk (below_step (qq6 HB.out GE755.out) hb); have n2_ := Aside0.mk (hbox); have n3_ := Aside0.mk ((qq31 HB.out GE755.out : w.heap.size ≤ gb756)); have n4_ := Aside0.mk ((qq31 HB.out GE755.out : w.heap.size ≤ gb756)); have n5_ := Aside0.mk ((qq19 BK755.out : gb755 ≠ gb756)); have n6_ := Aside0.mk ((qq20 BK755.out : gb756 ≠ gb755)); clear BK755; clear HB; have BK755 := n0_; have HB := n1_; have BK756 := n2_; have GW756 := n3_; have GE756 := n4_; have NB755_756 := n5_; have NB756_755 := n6_; clear n0_ n1_ n2_ n3_ n4_ n5_ n6_; clear hb hbox hg; have hnb21 := NB755_756.out; have hnc21 := NB756_755.out; have hcz22_0 : w20.cell? ⟨gb755, 0, none⟩ = some (.int .i64 a0_0) := (blk_cell BK755.out 0).trans rfl; have hcz22_1 : w20.cell? ⟨gb755, 1, none⟩ = some (.int .i64 a0_1) := (blk_cell BK755.out 1).trans rfl; have hfz22_0 := blk_frozen BK755.out 0; have hfz22_1 := blk_frozen BK755.out 1; have hcz23_0 : w20.cell? ⟨gb756, 0, none⟩ = some (.int .i64 a1_0) := (blk_cell BK756.out 0).trans rfl; have hcz23_1 : w20.cell? ⟨gb756, 1, none⟩ = some (.int .i64 a1_1) := (blk_cell BK756.out 1).trans rfl; have hfz23_0 := blk_frozen BK756.out 0; have hfz23_1 := blk_frozen BK756.out 1) | ((with_reducible refine gate_callee (f := 86) rfl ?_); refine goesL_ (some 10) rfl rfl Try.func86 (by kernel_rfl) rfl #[.agg #[.int .i64 a0_0, .int .i64 a0_1], .agg #[.int .i64 a1_0, .int .i64 a1_1]] rfl qq2 ?_; (with_reducible refine (impl_PointStep.calls k a0_0 a0_1 a1_0 a1_1 t757 t758 false _ A3.out).mono ?_); rintro e w24 ⟨rfl, hb⟩; refine ⟨_, rfl, ?_⟩; have n0_ := Aside0.mk (bbl_ BK755.out hb); have n1_ := Aside0.mk (bbl_ BK756.out hb); have n2_ := Aside0.mk (below_step (qq5 HB.out GE755.out GE756.out) hb); clear BK755; clear BK756; clear HB; have BK755 := n0_; have BK756 := n1_; have HB := n2_; clear n0_ n1_ n2_; (try clear hb); (try clear hb2); (try clear hk); (try clear hi)) | ((with_reducible refine gate_dst (N := 5) rfl ?_); refine box_event ?hg (N := 5) ?hd (cs := #[.int .i64 0, .int .i64 0]) (t := 32) ?hr ?_; (case hd => rfl); (case hg => rfl); (case hr => exact qq16); intro gb760 hg w25 hbox hb; have n0_ := Aside0.mk (bbl_ BK755.out hb); have n1_ := Aside0.mk (bbl_ BK756.out hb); have n2_ := Aside0.mk (below_step (qq5 HB.out GE755.out GE756.out) hb); have n3_ := Aside0.mk (hbox); have n4_ := Aside0.mk ((qq32 HB.out GE755.out GE756.out : w.heap.size ≤ gb760)); have n5_ := Aside0.mk ((qq32 HB.out GE755.out GE756.out : w.heap.size ≤ gb760)); have n6_ := Aside0.mk ((qq19 BK755.out : gb755 ≠ gb760)); have n7_ := Aside0.mk ((qq20 BK755.out : gb760 ≠ gb755)); have n8_ := Aside0.mk ((qq19 BK756.out : gb756 ≠ gb760)); have n9_ := Aside0.mk ((qq20 BK756.out : gb760 ≠ gb756)); clear BK755; clear BK756; clear HB; have BK755 := n0_; have BK756 := n1_; have HB := n2_; have BK760 := n3_; have GW760 := n4_; have GE760 := n5_; have NB755_760 := n6_; have NB760_755 := n7_; have NB756_760 := n8_; have NB760_756 := n9_; clear n0_ n1_ n2_ n3_ n4_ n5_ n6_ n7_ n8_ n9_; clear hb hbox hg; have hnb26 := NB760_755.out; have hnc26 := NB755_760.out; have hnb27 := NB760_756.out; have hnc27 := NB756_760.out; have hcz28_0 : w25.cell? ⟨gb760, 0, none⟩ = some (.int .i64 0) := (blk_cell BK760.out 0).trans rfl; have hcz28_1 : w25.cell? ⟨gb760, 1, none⟩ = some (.int .i64 0) := (blk_cell BK760.out 1).trans rfl; have hfz28_0 := blk_frozen BK760.out 0; have hfz28_1 := blk_frozen BK760.out 1))
    go_ret
    exact ⟨qq12, qq3 HB.out GE755.out GE756.out GE760.out⟩

end Go.Proofs.Ytgdhgncdpmalcaa.Q
namespace Go.Proofs.Ytgdhgncdpmalcaa.Q
open Go.RowKit Go.Proofs.YtgdhgncdpmalcaaW.PrintWords Go.Proofs.YtgdhgncdpmalcaaW.PrintLast Go.Proofs.YtgdhgncdpmalcaaW.PrintMore
attribute [local go_sem] max2_int min2_int max_two min_two max_three min_three max_four min_four
set_option linter.unusedVariables false
set_option linter.unusedSimpArgs false

/-! ### spec_PointGaps: function 82 -/
def spec_PointGaps.f (k : Nat) (a0_0 : Int) (a0_1 : Int) (a1_0 : Int) (a1_1 : Int) : Option (Int) := (spec_PointStep.f a0_0 a0_1 a1_0 a1_1).bind fun bt773 => (if bt773.2.2 = true then ((spec_l1Size.f bt773.1).bind fun t777 => ((spec_l1Size.f bt773.2.1).bind fun t778 => ((spec_l1Common.f k t777 t778).bind fun t779 => (some t779)))) else (some (-1)))
def spec_PointGaps.T4 : Bool × List (List Nat × List Nat) := (true, [([], []), ([0], [0]), ([1], [1]), ([], []), ([3], [3]), ([4, 2], [4]), ([2, 5, 5], [2, 5]), ([6, 6, 0, 1, 2, 3, 4, 5, 6], [6])])
def spec_PointGaps.B4 : List Nat := [0, 1, 3, 0, 8, 31, 63, 127]
theorem spec_PointGaps.tab4 : rtab .any (opsOf Try.f82 4) = spec_PointGaps.T4 := by kernel_rfl
theorem spec_PointGaps.bits4 : waitsOk spec_PointGaps.T4.2 spec_PointGaps.B4 = true := by kernel_rfl
set_option maxHeartbeats 8000000 in
set_option maxRecDepth 100000 in
theorem spec_PointGaps.calls (k : Nat) (a0_0 : Int) (a0_1 : Int) (a1_0 : Int) (a1_1 : Int) (r : Int) (w : World) (h : spec_PointGaps.f k a0_0 a0_1 a1_0 a1_1 = some r) :
    Calls Try.prog 82 #[.agg #[.int .i64 a0_0, .int .i64 a0_1], .agg #[.int .i64 a1_0, .int .i64 a1_1]] w fun e w' => e = .returned (.int .i64 r) ∧ Below w.heap.size w w' := by
  have hu32 := Try.underlying32
  have HB := Aside0.mk (Below.refl w.heap.size w)
  have H : ((spec_PointStep.f a0_0 a0_1 a1_0 a1_1).bind fun bt773 => (if bt773.2.2 = true then ((spec_l1Size.f bt773.1).bind fun t777 => ((spec_l1Size.f bt773.2.1).bind fun t778 => ((spec_l1Common.f k t777 t778).bind fun t779 => (some t779)))) else (some (-1)))) = some r := h
  clear h
  replace H := Option.bind_eq_some_iff.mp H
  obtain ⟨⟨t773, t774, t775⟩, A30, H⟩ := H
  replace H : (if t775 = true then ((spec_l1Size.f t773).bind fun t777 => ((spec_l1Size.f t774).bind fun t778 => ((spec_l1Common.f k t777 t778).bind fun t779 => (some t779)))) else (some (-1))) = some r := H
  have A3 := Aside0.mk A30
  clear A30
  by_cases c4 : t775 = true
  · subst c4
    have H1 : ((spec_l1Size.f t773).bind fun t777 => ((spec_l1Size.f t774).bind fun t778 => ((spec_l1Common.f k t777 t778).bind fun t779 => (some t779)))) = some r := by rw [if_pos rfl] at H; exact H
    clear H
    have H := H1
    clear H1
    replace H := Option.bind_eq_some_iff.mp H
    obtain ⟨t777, A50, H⟩ := H
    replace H : ((spec_l1Size.f t774).bind fun t778 => ((spec_l1Common.f k t777 t778).bind fun t779 => (some t779))) = some r := H
    have A5 := Aside0.mk A50
    clear A50
    replace H := Option.bind_eq_some_iff.mp H
    obtain ⟨t778, A60, H⟩ := H
    replace H : ((spec_l1Common.f k t777 t778).bind fun t779 => (some t779)) = some r := H
    have A6 := Aside0.mk A60
    clear A60
    replace H := Option.bind_eq_some_iff.mp H
    obtain ⟨t779, A70, H⟩ := H
    replace H : (some t779) = some r := H
    have A7 := Aside0.mk A70
    clear A70
    obtain rfl := Option.some.inj H
    go_enter Try.func82, Try.ntmps82
    try go_wp2_with (first | ((with_reducible refine gate_dst (N := 2) rfl ?_); refine box_event ?hg (N := 2) ?hd (cs := #[.int .i64 a0_0, .int .i64 a0_1]) (t := 32) ?hr ?_; (case hd => rfl); (case hg => rfl); (case hr => exact qq16); intro gb771 hg w8 hbox hb; have n0_ := Aside0.mk (below_step qq1 hb); have n1_ := Aside0.mk (hbox); have n2_ := Aside0.mk ((qq30 : w.heap.size ≤ gb771)); have n3_ := Aside0.mk ((qq30 : w.heap.size ≤ gb771)); clear HB; have HB := n0_; have BK771 := n1_; have GW771 := n2_; have GE771 := n3_; clear n0_ n1_ n2_ n3_; clear hb hbox hg) | ((with_reducible refine gate_dst (N := 3) rfl ?_); refine box_event ?hg (N := 3) ?hd (cs := #[.int .i64 a1_0, .int .i64 a1_1]) (t := 32) ?hr ?_; (case hd => rfl); (case hg => rfl); (case hr => exact qq16); intro gb772 hg w9 hbox hb; have n0_ := Aside0.mk (bbl_ BK771.out hb); have n1_ := Aside0.mk (below_step (qq6 HB.out GE771.out) hb); have n2_ := Aside0.mk (hbox); have n3_ := Aside0.mk ((qq31 HB.out GE771.out : w.heap.size ≤ gb772)); have n4_ := Aside0.mk ((qq31 HB.out GE771.out : w.heap.size ≤ gb772)); have n5_ := Aside0.mk ((qq19 BK771.out : gb771 ≠ gb772)); have n6_ := Aside0.mk ((qq20 BK771.out : gb772 ≠ gb771)); clear BK771; clear HB; have BK771 := n0_; have HB := n1_; have BK772 := n2_; have GW772 := n3_; have GE772 := n4_; have NB771_772 := n5_; have NB772_771 := n6_; clear n0_ n1_ n2_ n3_ n4_ n5_ n6_; clear hb hbox hg; have hnb10 := NB771_772.out; have hnc10 := NB772_771.out; have hcz11_0 : w9.cell? ⟨gb771, 0, none⟩ = some (.int .i64 a0_0) := (blk_cell BK771.out 0).trans rfl; have hcz11_1 : w9.cell? ⟨gb771, 1, none⟩ = some (.int .i64 a0_1) := (blk_cell BK771.out 1).trans rfl; have hfz11_0 := blk_frozen BK771.out 0; have hfz11_1 := blk_frozen BK771.out 1; have hcz12_0 : w9.cell? ⟨gb772, 0, none⟩ = some (.int .i64 a1_0) := (blk_cell BK772.out 0).trans rfl; have hcz12_1 : w9.cell? ⟨gb772, 1, none⟩ = some (.int .i64 a1_1) := (blk_cell BK772.out 1).trans rfl; have hfz12_0 := blk_frozen BK772.out 0; have hfz12_1 := blk_frozen BK772.out 1) | ((with_reducible refine gate_callee (f := 88) rfl ?_); refine goesL_ (some 10) rfl rfl Try.func88 (by kernel_rfl) rfl #[.agg #[.int .i64 a0_0, .int .i64 a0_1], .agg #[.int .i64 a1_0, .int .i64 a1_1]] rfl qq2 ?_; (with_reducible refine (spec_PointStep.calls a0_0 a0_1 a1_0 a1_1 t773 t774 true _ A3.out).mono ?_); rintro e w13 ⟨rfl, hb⟩; refine ⟨_, rfl, ?_⟩; have n0_ := Aside0.mk (bbl_ BK771.out hb); have n1_ := Aside0.mk (bbl_ BK772.out hb); have n2_ := Aside0.mk (below_step (qq5 HB.out GE771.out GE772.out) hb); clear BK771; clear BK772; clear HB; have BK771 := n0_; have BK772 := n1_; have HB := n2_; clear n0_ n1_ n2_; (try clear hb); (try clear hb2); (try clear hk); (try clear hi)) | ((with_reducible refine gate_dst (N := 5) rfl ?_); refine box_event ?hg (N := 5) ?hd (cs := #[.int .i64 0, .int .i64 0]) (t := 32) ?hr ?_; (case hd => rfl); (case hg => rfl); (case hr => exact qq16); intro gb776 hg w14 hbox hb; have n0_ := Aside0.mk (bbl_ BK771.out hb); have n1_ := Aside0.mk (bbl_ BK772.out hb); have n2_ := Aside0.mk (below_step (qq5 HB.out GE771.out GE772.out) hb); have n3_ := Aside0.mk (hbox); have n4_ := Aside0.mk ((qq32 HB.out GE771.out GE772.out : w.heap.size ≤ gb776)); have n5_ := Aside0.mk ((qq32 HB.out GE771.out GE772.out : w.heap.size ≤ gb776)); have n6_ := Aside0.mk ((qq19 BK771.out : gb771 ≠ gb776)); have n7_ := Aside0.mk ((qq20 BK771.out : gb776 ≠ gb771)); have n8_ := Aside0.mk ((qq19 BK772.out : gb772 ≠ gb776)); have n9_ := Aside0.mk ((qq20 BK772.out : gb776 ≠ gb772)); clear BK771; clear BK772; clear HB; have BK771 := n0_; have BK772 := n1_; have HB := n2_; have BK776 := n3_; have GW776 := n4_; have GE776 := n5_; have NB771_776 := n6_; have NB776_771 := n7_; have NB772_776 := n8_; have NB776_772 := n9_; clear n0_ n1_ n2_ n3_ n4_ n5_ n6_ n7_ n8_ n9_; clear hb hbox hg; have hnb15 := NB776_771.out; have hnc15 := NB771_776.out; have hnb16 := NB776_772.out; have hnc16 := NB772_776.out; have hcz17_0 : w14.cell? ⟨gb776, 0, none⟩ = some (.int .i64 0) := (blk_cell BK776.out 0).trans rfl; have hcz17_1 : w14.cell? ⟨gb776, 1, none⟩ = some (.int .i64 0) := (blk_cell BK776.out 1).trans rfl; have hfz17_0 := blk_frozen BK776.out 0; have hfz17_1 := blk_frozen BK776.out 1))
    have n0_ : Aside0 (((w14.setCell ⟨gb776, 0, none⟩ (.int .i64 t773)).setCell ⟨gb776, 1, none⟩ (.int .i64 t774)).heap[gb771]? = some (.cells #[.int .i64 a0_0, .int .i64 a0_1] 32 (0, 0))) := ⟨qq10 NB771_776.out BK771.out⟩
    have n1_ : Aside0 (((w14.setCell ⟨gb776, 0, none⟩ (.int .i64 t773)).setCell ⟨gb776, 1, none⟩ (.int .i64 t774)).heap[gb772]? = some (.cells #[.int .i64 a1_0, .int .i64 a1_1] 32 (0, 0))) := ⟨qq10 NB772_776.out BK772.out⟩
    have n2_ : Aside0 (((w14.setCell ⟨gb776, 0, none⟩ (.int .i64 t773)).setCell ⟨gb776, 1, none⟩ (.int .i64 t774)).heap[gb776]? = some (.cells #[.int .i64 t773, .int .i64 t774] 32 (0, 0))) := ⟨by (with_reducible repeat (first | refine blk_drewN ?_ _ | refine blk_drew ?_ | refine blk_alloc ?_ _)); refine blk_put (cs := #[.int .i64 t773, .int .i64 0]) ?_ 1 _ rfl; (with_reducible repeat (first | refine blk_drewN ?_ _ | refine blk_drew ?_ | refine blk_alloc ?_ _)); refine blk_put (cs := #[.int .i64 0, .int .i64 0]) ?_ 0 _ rfl; (with_reducible repeat (first | refine blk_drewN ?_ _ | refine blk_drew ?_ | refine blk_alloc ?_ _)); exact BK776.out⟩
    have n3_ : Aside0 (Below w.heap.size w ((w14.setCell ⟨gb776, 0, none⟩ (.int .i64 t773)).setCell ⟨gb776, 1, none⟩ (.int .i64 t774))) := ⟨qq3 HB.out GE771.out GE772.out GE776.out⟩
    (try clear BK771)
    (try clear BK772)
    (try clear BK776)
    (try clear HB)
    generalize ((w14.setCell ⟨gb776, 0, none⟩ (.int .i64 t773)).setCell ⟨gb776, 1, none⟩ (.int .i64 t774)) = w18 at n0_ n1_ n2_ n3_ ⊢
    have BK771 := n0_
    have BK772 := n1_
    have BK776 := n2_
    have HB := n3_
    clear n0_ n1_ n2_ n3_
    have n0_ := Aside0.mk (blk_drew BK771.out)
    have n1_ := Aside0.mk (blk_drew BK772.out)
    have n2_ := Aside0.mk (blk_drew BK776.out)
    have n3_ := Aside0.mk (below_drew1 HB.out)
    clear BK771
    clear BK772
    clear BK776
    clear HB
    have BK771 := n0_
    have BK772 := n1_
    have BK776 := n2_
    have HB := n3_
    clear n0_ n1_ n2_ n3_
    refine start_ (n := 8) (S := fun w' => w'.cell? ⟨gb776, 0, none⟩ = some (.int .i64 t773) ∧ w'.cell? ⟨gb776, 1, none⟩ = some (.int .i64 t774)) (ds := []) #[false, false, false, false, false, false, false, false] (by kernel_rfl) rfl rfl ⟨(blk_cell BK776.out 0).trans rfl, (blk_cell BK776.out 1).trans rfl⟩ (fun hHeld => ?_); refine with_tabW spec_PointGaps.tab4 spec_PointGaps.bits4 (fun HT_ HW_ => ?_)
    generalize w18.drew = w19 at BK771 BK772 BK776 HB hHeld ⊢
    refine pure_ (i := 0) (N := some 15) #[true, false, false, false, false, false, false, false] rfl rfl (any_of HT_.out (by kernel_rfl)) (fun _ _ _ h => h) (Or.inl ⟨by rfl, pA_⟩) pB_ ?_
    refine pure_ (i := 3) (N := some 18) #[true, false, false, true, false, false, false, false] rfl rfl (any_of HT_.out (by kernel_rfl)) (fun _ _ _ h => h) (Or.inl ⟨by rfl, pA_⟩) pB_ ?_
    refine take_ (i := 1) (N := some 16) (v := ?_) (a' := ?_) #[true, true, false, true, false, false, false, false] rfl rfl (take_ofW HT_.out HW_.out (by kernel_rfl)) (fun _ _ _ h => h) (Or.inl ⟨by rfl, ?_⟩) hHeld ?_ ?_
    rotate_left
    · rintro w' ⟨s0, s1⟩
      go_simp
      with_reducible rfl
    rotate_left
    · simp only [Act.put, List.setIfInBounds_toArray, List.set_cons_zero, List.set_cons_succ, i64_w, i32_w]
      rfl
    refine take_ (i := 4) (N := some 19) (v := ?_) (a' := ?_) #[true, true, false, true, true, false, false, false] rfl rfl (take_ofW HT_.out HW_.out (by kernel_rfl)) (fun _ _ _ h => h) (Or.inl ⟨by rfl, ?_⟩) hHeld ?_ ?_
    rotate_left
    · rintro w' ⟨s0, s1⟩
      go_simp
      with_reducible rfl
    rotate_left
    · simp only [Act.put, List.setIfInBounds_toArray, List.set_cons_zero, List.set_cons_succ, i64_w, i32_w]
      rfl
    refine one_ (i := 2) (N := some 17) #[true, true, true, true, true, false, false, false] rfl rfl (one_of HT_.out (by kernel_rfl)) (by decide) (fun K hK => ?_)
    refine goes_ Try.func71 (by kernel_rfl) rfl #[.int .i64 t773] (by rfl) rfl rfl qq2 ?_
    with_reducible refine (spec_l1Size.calls t773 t777 _ A5.out).mono ?_
    rintro e w20 ⟨rfl, hb⟩
    refine ⟨_, rfl, ?_⟩
    have n0_ := Aside0.mk (bbl_ BK771.out hb)
    have n1_ := Aside0.mk (bbl_ BK772.out hb)
    have n2_ := Aside0.mk (bbl_ BK776.out hb)
    have n3_ := Aside0.mk (below_step (qq3 HB.out GE771.out GE772.out GE776.out) hb)
    clear BK771
    clear BK772
    clear BK776
    clear HB
    have BK771 := n0_
    have BK772 := n1_
    have BK776 := n2_
    have HB := n3_
    clear n0_ n1_ n2_ n3_
    (try clear hb)
    (try clear hb2)
    (try clear hk)
    (try clear hi)
    refine hK.out _ _ ⟨(blk_cell BK776.out 0).trans rfl, (blk_cell BK776.out 1).trans rfl⟩ (fun hHeld => ?_)
    clear hK K
    refine norm_ (a' := ?_) ?_ ?_
    rotate_left
    · show Act.put _ (some 17) _ = _
      simp only [Act.put, List.setIfInBounds_toArray, List.set_cons_zero, List.set_cons_succ, i64_w, i32_w]
      rfl
    refine one_ (i := 5) (N := some 20) #[true, true, true, true, true, true, false, false] rfl rfl (one_of HT_.out (by kernel_rfl)) (by decide) (fun K hK => ?_)
    refine goes_ Try.func71 (by kernel_rfl) rfl #[.int .i64 t774] (by rfl) rfl rfl qq2 ?_
    with_reducible refine (spec_l1Size.calls t774 t778 _ A6.out).mono ?_
    rintro e w21 ⟨rfl, hb⟩
    refine ⟨_, rfl, ?_⟩
    have n0_ := Aside0.mk (bbl_ BK771.out hb)
    have n1_ := Aside0.mk (bbl_ BK772.out hb)
    have n2_ := Aside0.mk (bbl_ BK776.out hb)
    have n3_ := Aside0.mk (below_step (qq3 HB.out GE771.out GE772.out GE776.out) hb)
    clear BK771
    clear BK772
    clear BK776
    clear HB
    have BK771 := n0_
    have BK772 := n1_
    have BK776 := n2_
    have HB := n3_
    clear n0_ n1_ n2_ n3_
    (try clear hb)
    (try clear hb2)
    (try clear hk)
    (try clear hi)
    refine hK.out _ _ ⟨(blk_cell BK776.out 0).trans rfl, (blk_cell BK776.out 1).trans rfl⟩ (fun hHeld => ?_)
    clear hK K
    refine norm_ (a' := ?_) ?_ ?_
    rotate_left
    · show Act.put _ (some 20) _ = _
      simp only [Act.put, List.setIfInBounds_toArray, List.set_cons_zero, List.set_cons_succ, i64_w, i32_w]
      rfl
    refine one_ (i := 6) (N := some 21) #[true, true, true, true, true, true, true, false] rfl rfl (one_of HT_.out (by kernel_rfl)) (by decide) (fun K hK => ?_)
    refine goes_ Try.func89 (by kernel_rfl) rfl #[.int .i64 t777, .int .i64 t778] (by rfl) rfl rfl qq2 ?_
    with_reducible refine (spec_l1Common.calls k t777 t778 t779 _ A7.out).mono ?_
    rintro e w' ⟨rfl, ⟨nd, rfl⟩⟩
    refine ⟨_, rfl, ?_⟩
    refine hK.out _ _ ⟨(blk_cell BK776.out 0).trans rfl, (blk_cell BK776.out 1).trans rfl⟩ (fun hHeld => ?_)
    clear hK K
    refine norm_ (a' := ?_) ?_ ?_
    rotate_left
    · show Act.put _ (some 21) _ = _
      simp only [Act.put, List.setIfInBounds_toArray, List.set_cons_zero, List.set_cons_succ, i64_w, i32_w]
      rfl
    refine pure_ (i := 7) (N := some 4) #[true, true, true, true, true, true, true, true] rfl rfl (any_of HT_.out (by kernel_rfl)) (fun _ _ _ h => h) (Or.inl ⟨by rfl, pA_⟩) pB_ ?_
    refine done_ (done_of HT_.out (by kernel_rfl)) ?_
    try go_wp2
    go_ret
    exact ⟨qq12, qq3 HB.out GE771.out GE772.out GE776.out⟩
  · replace c4 := Bool.eq_false_iff.mpr c4
    subst c4
    have H1 : (some (-1)) = some r := by rw [if_neg (show ¬ (false = true) by decide)] at H; exact H
    clear H
    have H := H1
    clear H1
    obtain rfl := Option.some.inj H
    go_enter Try.func82, Try.ntmps82
    go_wp2_with (first | ((with_reducible refine gate_dst (N := 2) rfl ?_); refine box_event ?hg (N := 2) ?hd (cs := #[.int .i64 a0_0, .int .i64 a0_1]) (t := 32) ?hr ?_; (case hd => rfl); (case hg => rfl); (case hr => exact qq16); intro gb771 hg w22 hbox hb; have n0_ := Aside0.mk (below_step qq1 hb); have n1_ := Aside0.mk (hbox); have n2_ := Aside0.mk ((qq30 : w.heap.size ≤ gb771)); have n3_ := Aside0.mk ((qq30 : w.heap.size ≤ gb771)); clear HB; have HB := n0_; have BK771 := n1_; have GW771 := n2_; have GE771 := n3_; clear n0_ n1_ n2_ n3_; clear hb hbox hg) | ((with_reducible refine gate_dst (N := 3) rfl ?_); refine box_event ?hg (N := 3) ?hd (cs := #[.int .i64 a1_0, .int .i64 a1_1]) (t := 32) ?hr ?_; (case hd => rfl); (case hg => rfl); (case hr => exact qq16); intro gb772 hg w23 hbox hb; have n0_ := Aside0.mk (bbl_ BK771.out hb); have n1_ := Aside0.mk (below_step (qq6 HB.out GE771.out) hb); have n2_ := Aside0.mk (hbox); have n3_ := Aside0.mk ((qq31 HB.out GE771.out : w.heap.size ≤ gb772)); have n4_ := Aside0.mk ((qq31 HB.out GE771.out : w.heap.size ≤ gb772)); have n5_ := Aside0.mk ((qq19 BK771.out : gb771 ≠ gb772)); have n6_ := Aside0.mk ((qq20 BK771.out : gb772 ≠ gb771)); clear BK771; clear HB; have BK771 := n0_; have HB := n1_; have BK772 := n2_; have GW772 := n3_; have GE772 := n4_; have NB771_772 := n5_; have NB772_771 := n6_; clear n0_ n1_ n2_ n3_ n4_ n5_ n6_; clear hb hbox hg; have hnb24 := NB771_772.out; have hnc24 := NB772_771.out; have hcz25_0 : w23.cell? ⟨gb771, 0, none⟩ = some (.int .i64 a0_0) := (blk_cell BK771.out 0).trans rfl; have hcz25_1 : w23.cell? ⟨gb771, 1, none⟩ = some (.int .i64 a0_1) := (blk_cell BK771.out 1).trans rfl; have hfz25_0 := blk_frozen BK771.out 0; have hfz25_1 := blk_frozen BK771.out 1; have hcz26_0 : w23.cell? ⟨gb772, 0, none⟩ = some (.int .i64 a1_0) := (blk_cell BK772.out 0).trans rfl; have hcz26_1 : w23.cell? ⟨gb772, 1, none⟩ = some (.int .i64 a1_1) := (blk_cell BK772.out 1).trans rfl; have hfz26_0 := blk_frozen BK772.out 0; have hfz26_1 := blk_frozen BK772.out 1) | ((with_reducible refine gate_callee (f := 88) rfl ?_); refine goesL_ (some 10) rfl rfl Try.func88 (by kernel_rfl) rfl #[.agg #[.int .i64 a0_0, .int .i64 a0_1], .agg #[.int .i64 a1_0, .int .i64 a1_1]] rfl qq2 ?_; (with_reducible refine (spec_PointStep.calls a0_0 a0_1 a1_0 a1_1 t773 t774 false _ A3.out).mono ?_); rintro e w27 ⟨rfl, hb⟩; refine ⟨_, rfl, ?_⟩; have n0_ := Aside0.mk (bbl_ BK771.out hb); have n1_ := Aside0.mk (bbl_ BK772.out hb); have n2_ := Aside0.mk (below_step (qq5 HB.out GE771.out GE772.out) hb); clear BK771; clear BK772; clear HB; have BK771 := n0_; have BK772 := n1_; have HB := n2_; clear n0_ n1_ n2_; (try clear hb); (try clear hb2); (try clear hk); (try clear hi)) | ((with_reducible refine gate_dst (N := 5) rfl ?_); refine box_event ?hg (N := 5) ?hd (cs := #[.int .i64 0, .int .i64 0]) (t := 32) ?hr ?_; (case hd => rfl); (case hg => rfl); (case hr => exact qq16); intro gb776 hg w28 hbox hb; have n0_ := Aside0.mk (bbl_ BK771.out hb); have n1_ := Aside0.mk (bbl_ BK772.out hb); have n2_ := Aside0.mk (below_step (qq5 HB.out GE771.out GE772.out) hb); have n3_ := Aside0.mk (hbox); have n4_ := Aside0.mk ((qq32 HB.out GE771.out GE772.out : w.heap.size ≤ gb776)); have n5_ := Aside0.mk ((qq32 HB.out GE771.out GE772.out : w.heap.size ≤ gb776)); have n6_ := Aside0.mk ((qq19 BK771.out : gb771 ≠ gb776)); have n7_ := Aside0.mk ((qq20 BK771.out : gb776 ≠ gb771)); have n8_ := Aside0.mk ((qq19 BK772.out : gb772 ≠ gb776)); have n9_ := Aside0.mk ((qq20 BK772.out : gb776 ≠ gb772)); clear BK771; clear BK772; clear HB; have BK771 := n0_; have BK772 := n1_; have HB := n2_; have BK776 := n3_; have GW776 := n4_; have GE776 := n5_; have NB771_776 := n6_; have NB776_771 := n7_; have NB772_776 := n8_; have NB776_772 := n9_; clear n0_ n1_ n2_ n3_ n4_ n5_ n6_ n7_ n8_ n9_; clear hb hbox hg; have hnb29 := NB776_771.out; have hnc29 := NB771_776.out; have hnb30 := NB776_772.out; have hnc30 := NB772_776.out; have hcz31_0 : w28.cell? ⟨gb776, 0, none⟩ = some (.int .i64 0) := (blk_cell BK776.out 0).trans rfl; have hcz31_1 : w28.cell? ⟨gb776, 1, none⟩ = some (.int .i64 0) := (blk_cell BK776.out 1).trans rfl; have hfz31_0 := blk_frozen BK776.out 0; have hfz31_1 := blk_frozen BK776.out 1))
    go_ret
    exact ⟨qq12, qq3 HB.out GE771.out GE772.out GE776.out⟩

end Go.Proofs.Ytgdhgncdpmalcaa.Q
namespace Go.Proofs.Ytgdhgncdpmalcaa.Pure
open Go.RowKit Go.Proofs.Ytgdhgncdpmalcaa.Q Go.Proofs.YtgdhgncdpmalcaaW.PrintWords Go.Proofs.YtgdhgncdpmalcaaW.PrintLast Go.Proofs.YtgdhgncdpmalcaaW.PrintMore

/-- What PointGaps answers. -/
def gapsR (a b c d : Int) : Int := if PV a b = true ∧ PV c d = true then (Int.gcd (c - a) (d - b) : Int) else -1
theorem spec_PointGaps_eq (k : Nat) (hk : 20000 < k) (a b c d : Int) : spec_PointGaps.f k a b c d = some (gapsR a b c d) := by
  simp only [spec_PointGaps.f, spec_PointStep_eq, Option.bind_some, gapsR, spec_l1Common.f]
  by_cases h : PV a b = true ∧ PV c d = true
  · rw [stepR_yes h.1 h.2, if_pos rfl, if_pos h]
    have := PV_iff.1 h.1; have := PV_iff.1 h.2
    rw [l1Size_eq (x := c - a) (by omega) (by omega), l1Size_eq (x := d - b) (by omega) (by omega)]
    simp only [Option.bind_some]
    rw [spec_l1Common_eq k _ _ (by omega) (by omega) (by omega), gcd_natAbs]; rfl
  · rw [stepR_no h, if_neg (by simp), if_neg h]
theorem impl_PointGaps_eq (k : Nat) (hk : 20000 < k) (a b c d : Int) : impl_PointGaps.f k a b c d = some (gapsR a b c d) := by
  obtain ⟨k, rfl⟩ : ∃ m, k = m + 1 := ⟨k - 1, by omega⟩
  simp only [impl_PointGaps.f, impl_PointStep_eq, Option.bind_some, gapsR, impl_pairOf.f]
  by_cases h : PV a b = true ∧ PV c d = true
  · rw [stepR_yes h.1 h.2, if_pos rfl, if_pos h]
    have := PV_iff.1 h.1; have := PV_iff.1 h.2
    rw [impl_gcd_eq (k + 1) (by omega) (c - a) (d - b) (by omega) (by omega)]; rfl
  · rw [stepR_no h, if_neg (by simp), if_neg h]
theorem gapsR_yes {a b c d : Int} (h : PV a b = true) (h' : PV c d = true) : gapsR a b c d = (Int.gcd (c - a) (d - b) : Int) := if_pos ⟨h, h'⟩
end Go.Proofs.Ytgdhgncdpmalcaa.Pure
namespace Go.Proofs.Ytgdhgncdpmalcaa.Ring
open Go.RowKit Go.Shelf Go.Proofs.Ytgdhgncdpmalcaa.Q Go.Proofs.Ytgdhgncdpmalcaa.Drawn Go.Proofs.YtgdhgncdpmalcaaW.PrintWords Go.Proofs.YtgdhgncdpmalcaaW.PrintLast Go.Proofs.YtgdhgncdpmalcaaW.PrintMore
set_option linter.unusedVariables false
set_option linter.unusedSimpArgs false
attribute [local go_sem] Oper.semAt_some
def gapsP (p q : Pt) : Int := Pure.gapsR p.f0 p.f1 q.f0 q.f1

def edgeS (l : List Pt) : Nat → Int
  | 0 => 0
  | j + 1 => wrap64 (edgeS l j + gapsP (at_ l j) (nxt l j))
set_option maxRecDepth 100000 in
set_option maxHeartbeats 4000000 in
theorem edge_calls (top : Nat) (bs : Nat → Nat) (l : List Pt) (w : World) (hR : Ring w top bs l) (htop : top ≤ w.heap.size) :
    Calls Try.prog 69 #[.agg #[.pointer (some ⟨bs 0, 0, none⟩), .int .i64 l.length]] w fun e w' => e = .returned (.int .i64 (edgeS l l.length)) ∧ Below w.heap.size w w' := by
  refine (callsIn_wide (n := 0)).1 (callsIn_of_wp_marks Try.func69 rfl trivial ?_ rfl)
  simp only [Try.ntmps69, List.size_toArray, List.length_cons, List.length_nil, Nat.reduceAdd, Nat.reduceSub, Array.replicate_succ, Array.replicate_zero, List.push_toArray, List.append_toArray, List.nil_append, List.cons_append]
  have HR := Aside0.mk hR
  clear hR
  gi_wp2
  have hs : ((w.alloc (.cells #[.pointer (some ⟨bs 0, 0, none⟩), .int .i64 l.length] 54)).alloc (.cells #[.int .i64 0] 3)).heap.size = w.heap.size + 2 := by simp
  obtain ⟨W0, hW0⟩ : ∃ W0, (w.alloc (.cells #[.pointer (some ⟨bs 0, 0, none⟩), .int .i64 l.length] 54)).alloc (.cells #[.int .i64 0] 3) = W0 := ⟨_, rfl⟩
  have hc0 : W0.cell? ⟨w.heap.size + 1, 0, none⟩ = some (.int .i64 0) := by rw [← hW0]; simp [go_sem]
  have hf0 : W0.frozen? ⟨w.heap.size + 1, 0, none⟩ = false := by rw [← hW0]; simp [go_sem]
  have hb0 : Below w.heap.size w W0 := by rw [← hW0]; exact ((Below.refl _ w).alloc (Nat.le_refl _) _).alloc (by simp) _
  rw [hW0] at hs ⊢
  clear hW0
  refine range_ring w.heap.size bs l ((HR.out.mono htop).below hb0) (by omega) rfl
    (fun j W => (W.cell? ⟨w.heap.size + 1, 0, none⟩ = some (.int .i64 (edgeS l j)) ∧ W.frozen? ⟨w.heap.size + 1, 0, none⟩ = false) ∧ Below w.heap.size w W)
    (fun _ _ => False)
    (OwnFrom.and (Own.from (fun s A B row hs hg hr => ⟨cell_kept hs.1 hg hr, (frozen_kept hs.1 hg hr).trans hs.2⟩) _) (ownFrom_below (Nat.le_refl _) (by omega)))
    (fun _ _ _ _ h _ _ => h.elim) ⟨⟨hc0, hf0⟩, hb0⟩ ?a1 ?assign ?body ?done ?stop
  case assign =>
    intro r k W K hK
    gi_wp2
    exact hK
  case done =>
    rintro D W hD ⟨⟨hc, hf⟩, hb⟩ hK
    gi_wp2
    refine ⟨by simp, .inl ⟨_, _, rfl, run_takeDeferred hK, ?_⟩⟩
    exact ⟨_, results_tmp rfl _ _ _, rfl, hb.trans (belowK_b (w := W0) (by omega) _ _ _ _ hD hK rfl rfl)⟩
  case stop =>
    rintro D c W hD h
    exact h.elim
  case body =>
    rintro r k W hk ⟨⟨hc, hf⟩, hb⟩ hbt
    have hRW := (HR.out.mono htop).below hb
    have hkp := hRW.pos
    have hrx := Aside0.mk (fun w' (h : Below w.heap.size W w') => (hRW.below h).x k hk)
    have hry := Aside0.mk (fun w' (h : Below w.heap.size W w') => (hRW.below h).y k hk)
    have hrn := Aside0.mk (fun w' (h : Below w.heap.size W w') => (hRW.below h).next k hk)
    have hnk : (k + 1) % l.length < l.length := Nat.mod_lt _ (by omega)
    have hnx := Aside0.mk (fun w' (h : Below w.heap.size W w') => (show w'.cell? ⟨bs ((k + 1) % l.length), 0, none⟩ = some (.int .i64 (nxt l k).f0) from (hRW.below h).x _ hnk))
    have hny := Aside0.mk (fun w' (h : Below w.heap.size W w') => (show w'.cell? ⟨bs ((k + 1) % l.length), 1, none⟩ = some (.int .i64 (nxt l k).f1) from (hRW.below h).y _ hnk))
    clear hRW
    gi_wp2
    have HF := wide_round Try.prog r
    obtain ⟨VS, hVS⟩ : ∃ VS : List (Option Tmp × Value), [(some 8, .int .i64 (edgeS l k)), (some 9, .pointer (some ⟨bs k, 0, none⟩)), (some 10, .pointer (some ⟨bs k, 0, none⟩)), (some 11, .pointer (some ⟨bs k, 0, none⟩)), (some 12, .agg #[.int .i64 (at_ l k).f0, .int .i64 (at_ l k).f1]), (some 13, .pointer (some ⟨bs k, 0, none⟩)), (some 14, .pointer (some ⟨bs k, 0, none⟩)), (some 15, .pointer (some ⟨bs k, 2, none⟩)), (some 16, .pointer (some ⟨bs ((k + 1) % l.length), 0, none⟩)), (some 17, .pointer (some ⟨bs ((k + 1) % l.length), 0, none⟩)), (some 18, .pointer (some ⟨bs ((k + 1) % l.length), 0, none⟩)), (some 19, .agg #[.int .i64 (nxt l k).f0, .int .i64 (nxt l k).f1]), (some 20, .int .i64 (gapsP (at_ l k) (nxt l k))), (some 21, .int .i64 (wrap64 (edgeS l k + gapsP (at_ l k) (nxt l k)))), (none, undef)] = VS := ⟨_, rfl⟩
    have HN : (VS.filterMap (·.1)).Nodup := by rw [← hVS]; exact (show List.Nodup [(8 : Tmp), (9 : Tmp), (10 : Tmp), (11 : Tmp), (12 : Tmp), (13 : Tmp), (14 : Tmp), (15 : Tmp), (16 : Tmp), (17 : Tmp), (18 : Tmp), (19 : Tmp), (20 : Tmp), (21 : Tmp)] by decide)
    refine act_name fun A0 hA0 => ?_
    have E3 : ∀ L : List Bool, (fill VS L A0).tmps[3]?.getD undef = .pointer (some ⟨w.heap.size + 1, 0, none⟩) := fun L => fill_old _ _ _ (by rw [← hVS]; exact (show (3 : Tmp) ∉ [(8 : Tmp), (9 : Tmp), (10 : Tmp), (11 : Tmp), (12 : Tmp), (13 : Tmp), (14 : Tmp), (15 : Tmp), (16 : Tmp), (17 : Tmp), (18 : Tmp), (19 : Tmp), (20 : Tmp), (21 : Tmp)] by decide)) (by rw [← hA0]; rfl)
    have E4 : ∀ L : List Bool, (fill VS L A0).tmps[4]?.getD undef = .pointer (some ⟨bs k, 0, none⟩) := fun L => fill_old _ _ _ (by rw [← hVS]; exact (show (4 : Tmp) ∉ [(8 : Tmp), (9 : Tmp), (10 : Tmp), (11 : Tmp), (12 : Tmp), (13 : Tmp), (14 : Tmp), (15 : Tmp), (16 : Tmp), (17 : Tmp), (18 : Tmp), (19 : Tmp), (20 : Tmp), (21 : Tmp)] by decide)) (by rw [← hA0]; rfl)
    have hT_ : 21 < A0.tmps.size := by rw [← hA0]; simp
    refine drawn_last (by kernel_rfl) (early_spec (by kernel_rfl)) 14 rfl (waits_spec (by kernel_rfl)) VS (by rw [← hVS]; rfl) HN (fun w' => (w'.cell? ⟨w.heap.size + 1, 0, none⟩ = some (.int .i64 (edgeS l k)) ∧ w'.frozen? ⟨w.heap.size + 1, 0, none⟩ = false) ∧ Below w.heap.size W w' ∧ KeepsFrom W0.heap.size W w' ∧ w.heap.size + 2 ≤ w'.heap.size) (fun w' => (w'.cell? ⟨w.heap.size + 1, 0, none⟩ = some (.int .i64 (edgeS l (k + 1))) ∧ w'.frozen? ⟨w.heap.size + 1, 0, none⟩ = false) ∧ Below w.heap.size W w' ∧ KeepsFrom W0.heap.size W w' ∧ w.heap.size + 2 ≤ w'.heap.size) (⟨⟨hc, hf⟩, (Below.refl _ _).drew, (KeepsOthers.drew _).from _, by have := hbt.size; simp; omega⟩) ?_ ?_ ?_
    · intro i o v L w' hi ho hv hpre hS K hK
      have hii : i = 0 ∨ i = 1 ∨ i = 2 ∨ i = 3 ∨ i = 4 ∨ i = 5 ∨ i = 6 ∨ i = 7 ∨ i = 8 ∨ i = 9 ∨ i = 10 ∨ i = 11 ∨ i = 12 ∨ i = 13 := by omega
      rcases hii with rfl | rfl | rfl | rfl | rfl | rfl | rfl | rfl | rfl | rfl | rfl | rfl | rfl | rfl
      · obtain rfl := Option.some.inj ho
        obtain rfl := vs_at hVS hv rfl
        have e3 := E3 L
        have c1 := hS.1.1
        refine st_val HF rfl (by simp) rfl (w' := w') ?_ (hK w' hS)
        generalize fill VS L A0 = A at e3 ⊢
        simp [execOp, go_sem, i64_w, e3, c1]
      · obtain rfl := Option.some.inj ho
        obtain rfl := vs_at hVS hv rfl
        have e4 := E4 L
        refine st_val HF rfl (by simp) rfl (w' := w') ?_ (hK w' hS)
        generalize fill VS L A0 = A at e4 ⊢
        simp [execOp, go_sem, i64_w, e4]
      · obtain rfl := Option.some.inj ho
        obtain rfl := vs_at hVS hv rfl
        have e9 := fill_get HN hVS hT_ (t := 9) (j := 1) rfl rfl (hpre ⟨1, .data⟩ (by simp) rfl)
        refine st_val HF rfl (by simp) rfl (w' := w') ?_ (hK w' hS)
        generalize fill VS L A0 = A at e9 ⊢
        simp [execOp, go_sem, i64_w, e9]
      · obtain rfl := Option.some.inj ho
        obtain rfl := vs_at hVS hv rfl
        have e10 := fill_get HN hVS hT_ (t := 10) (j := 2) rfl rfl (hpre ⟨2, .data⟩ (by simp) rfl)
        refine st_val HF rfl (by simp) rfl (w' := w') ?_ (hK w' hS)
        generalize fill VS L A0 = A at e10 ⊢
        simp [execOp, go_sem, i64_w, e10]
      · obtain rfl := Option.some.inj ho
        obtain rfl := vs_at hVS hv rfl
        have e11 := fill_get HN hVS hT_ (t := 11) (j := 3) rfl rfl (hpre ⟨3, .data⟩ (by simp) rfl)
        have c1 := hrx.out w' hS.2.1
        have c2 := hry.out w' hS.2.1
        refine st_val HF rfl (by simp) rfl (w' := w') ?_ (hK w' hS)
        generalize fill VS L A0 = A at e11 ⊢
        simp [execOp, go_sem, i64_w, e11, c1, c2]
      · obtain rfl := Option.some.inj ho
        obtain rfl := vs_at hVS hv rfl
        have e4 := E4 L
        refine st_val HF rfl (by simp) rfl (w' := w') ?_ (hK w' hS)
        generalize fill VS L A0 = A at e4 ⊢
        simp [execOp, go_sem, i64_w, e4]
      · obtain rfl := Option.some.inj ho
        obtain rfl := vs_at hVS hv rfl
        have e13 := fill_get HN hVS hT_ (t := 13) (j := 5) rfl rfl (hpre ⟨5, .data⟩ (by simp) rfl)
        refine st_val HF rfl (by simp) rfl (w' := w') ?_ (hK w' hS)
        generalize fill VS L A0 = A at e13 ⊢
        simp [execOp, go_sem, i64_w, e13]
      · obtain rfl := Option.some.inj ho
        obtain rfl := vs_at hVS hv rfl
        have e14 := fill_get HN hVS hT_ (t := 14) (j := 6) rfl rfl (hpre ⟨6, .data⟩ (by simp) rfl)
        refine st_val HF rfl (by simp) rfl (w' := w') ?_ (hK w' hS)
        generalize fill VS L A0 = A at e14 ⊢
        simp [execOp, go_sem, i64_w, e14]
      · obtain rfl := Option.some.inj ho
        obtain rfl := vs_at hVS hv rfl
        have e15 := fill_get HN hVS hT_ (t := 15) (j := 7) rfl rfl (hpre ⟨7, .data⟩ (by simp) rfl)
        have c1 := hrn.out w' hS.2.1
        refine st_val HF rfl (by simp) rfl (w' := w') ?_ (hK w' hS)
        generalize fill VS L A0 = A at e15 ⊢
        simp [execOp, go_sem, i64_w, e15, c1]
      · obtain rfl := Option.some.inj ho
        obtain rfl := vs_at hVS hv rfl
        have e16 := fill_get HN hVS hT_ (t := 16) (j := 8) rfl rfl (hpre ⟨8, .data⟩ (by simp) rfl)
        refine st_val HF rfl (by simp) rfl (w' := w') ?_ (hK w' hS)
        generalize fill VS L A0 = A at e16 ⊢
        simp [execOp, go_sem, i64_w, e16]
      · obtain rfl := Option.some.inj ho
        obtain rfl := vs_at hVS hv rfl
        have e17 := fill_get HN hVS hT_ (t := 17) (j := 9) rfl rfl (hpre ⟨9, .data⟩ (by simp) rfl)
        refine st_val HF rfl (by simp) rfl (w' := w') ?_ (hK w' hS)
        generalize fill VS L A0 = A at e17 ⊢
        simp [execOp, go_sem, i64_w, e17]
      · obtain rfl := Option.some.inj ho
        obtain rfl := vs_at hVS hv rfl
        have e18 := fill_get HN hVS hT_ (t := 18) (j := 10) rfl rfl (hpre ⟨10, .data⟩ (by simp) rfl)
        have c1 := hnx.out w' hS.2.1
        have c2 := hny.out w' hS.2.1
        refine st_val HF rfl (by simp) rfl (w' := w') ?_ (hK w' hS)
        generalize fill VS L A0 = A at e18 ⊢
        simp [execOp, go_sem, i64_w, e18, c1, c2]
      · obtain rfl := Option.some.inj ho
        obtain rfl := vs_at hVS hv rfl
        have e12 := fill_get HN hVS hT_ (t := 12) (j := 4) rfl rfl (hpre ⟨4, .data⟩ (by simp) rfl)
        have e19 := fill_get HN hVS hT_ (t := 19) (j := 11) rfl rfl (hpre ⟨11, .data⟩ (by simp) rfl)
        refine st_call HF rfl (by simp) rfl (w := w') (f := 81) (args := #[.agg #[.int .i64 (at_ l k).f0, .int .i64 (at_ l k).f1], .agg #[.int .i64 (nxt l k).f0, .int .i64 (nxt l k).f1]]) (v := .int .i64 (gapsP (at_ l k) (nxt l k))) ?_ ?_
        · generalize fill VS L A0 = A at e12 e19 ⊢
          simp [execOp, resolve, go_sem, e12, e19]
        · refine (impl_PointGaps.calls 20001 _ _ _ _ (gapsP (at_ l k) (nxt l k)) w' (Pure.impl_PointGaps_eq 20001 (by decide) _ _ _ _)).mono ?_; rintro e w2 ⟨rfl, hb2⟩; exact ⟨rfl, hK w2 ⟨⟨(hb2.cell (p := ⟨w.heap.size + 1, 0, none⟩) qq56).trans hS.1.1, (hb2.frozen (p := ⟨w.heap.size + 1, 0, none⟩) qq56).trans hS.1.2⟩, hS.2.1.trans (hb2.mono (by have := hS.2.2.2; omega)), hS.2.2.1.trans (KeepsFrom.of_below hb2), Nat.le_trans hS.2.2.2 hb2.size⟩⟩
      · obtain rfl := Option.some.inj ho
        obtain rfl := vs_at hVS hv rfl
        have e8 := fill_get HN hVS hT_ (t := 8) (j := 0) rfl rfl (hpre ⟨0, .data⟩ (by simp) rfl)
        have e20 := fill_get HN hVS hT_ (t := 20) (j := 12) rfl rfl (hpre ⟨12, .data⟩ (by simp) rfl)
        refine st_val HF rfl (by simp) rfl (w' := w') ?_ (hK w' hS)
        generalize fill VS L A0 = A at e8 e20 ⊢
        simp [execOp, go_sem, i64_w, e8, e20]
    · intro o v L w' ho hv hall hS K hK
      obtain rfl := Option.some.inj ho
      obtain rfl := vs_at hVS hv rfl
      have e3 := E3 L
      have e21 := fill_get HN hVS hT_ (t := 21) (j := 13) rfl rfl (hall 13 (by decide))
      have c1 := hS.1.1
      have c2 := hS.1.2
      refine st_skip HF rfl (by simp) rfl (w' := w'.setCell ⟨w.heap.size + 1, 0, none⟩ (.int .i64 (edgeS l (k + 1)))) ?_ (hK _ ⟨⟨World.cell?_setCell_same _ _ _ c1, by rw [World.frozen?_setCell]; exact c2⟩, hS.2.1.setCell (p := ⟨w.heap.size + 1, 0, none⟩) (by dsimp only; omega) _, hS.2.2.1.trans ((KeepsOthers.setCell _ _ _).from _), by simpa using hS.2.2.2⟩)
      generalize fill VS L A0 = A at e3 e21 ⊢
      simp [execOp, go_sem, e3, e21, c1, c2]
      rfl
    · intro w' hS'
      exact ⟨hS'.2.2.1, hS'.2.1, hS'.1, hb.trans hS'.2.1⟩

end Go.Proofs.Ytgdhgncdpmalcaa.Ring
namespace Go.Proofs.Ytgdhgncdpmalcaa.Ring
open Go.RowKit Go.Shelf Go.Proofs.Ytgdhgncdpmalcaa.Q Go.Proofs.Ytgdhgncdpmalcaa.Drawn Go.Proofs.YtgdhgncdpmalcaaW.PrintWords Go.Proofs.YtgdhgncdpmalcaaW.PrintLast Go.Proofs.YtgdhgncdpmalcaaW.PrintMore
set_option linter.unusedVariables false
set_option linter.unusedSimpArgs false
attribute [local go_sem] Oper.semAt_some
set_option maxRecDepth 100000 in
set_option maxHeartbeats 4000000 in
theorem polyEdge_no (A0 : Option Addr) (c0 : Nat) (l0 : List Pt) (w : World) (hr0 : Kd.C k32 w A0 l0.length l0) (hc0 : l0.length ≤ c0) (h : okS l0 = false) :
    Calls Try.prog 40 #[.slice A0 l0.length c0] w fun e w' => e = .returned (.int .i64 (-1)) ∧ Below w.heap.size w w' := by
  have HR0 := Aside0.mk hr0
  have HC0 := Aside0.mk hc0
  have HX := Aside0.mk h
  clear hr0 hc0 h
  go_enter Try.func40, Try.ntmps40
  go_wp2_with (go_at_call 49; refine (simple_isnt A0 c0 l0 _ ?s1 HC0.out HX.out).mono ?_; (case s1 => exact qq35); rintro e w1 ⟨rfl, hb⟩; have HB := Aside0.mk ((Below.refl w.heap.size w).trans hb); clear hb)
  go_ret
  exact ⟨rfl, HB.out.alloc HB.out.size _⟩

set_option maxRecDepth 100000 in
set_option maxHeartbeats 4000000 in
theorem polyEdge_yes (A0 : Option Addr) (c0 : Nat) (l0 : List Pt) (w : World) (hr0 : Kd.C k32 w A0 l0.length l0) (hc0 : l0.length ≤ c0) (h : okS l0 = true) :
    Calls Try.prog 40 #[.slice A0 l0.length c0] w fun e w' => e = .returned (.int .i64 (edgeS l0 l0.length)) ∧ Below w.heap.size w w' := by
  have HR0 := Aside0.mk hr0
  have HC0 := Aside0.mk hc0
  have HX := Aside0.mk h
  clear hr0 hc0 h
  go_enter Try.func40, Try.ntmps40
  go_wp2_with (first | (go_at_call 49; refine (simple_yes A0 c0 l0 _ ?s1 HC0.out HX.out).mono ?_; (case s1 => exact qq35); rintro e w1 ⟨bs, rfl, hR, hlo0, hb⟩; have HR := Aside0.mk hR; have HB := Aside0.mk ((Below.refl w.heap.size w).trans hb); clear hb hR hlo0) | (go_at_call 69; refine (edge_calls w1.heap.size bs l0 _ (HR.out.below ((Below.refl _ _).alloc (Nat.le_refl _) _)) (by simp)).mono ?_; rintro e w2 ⟨rfl, hb2⟩; have HB2 := Aside0.mk ((HB.out.alloc HB.out.size (.cells #[.pointer (some ⟨bs 0, 0, none⟩), .int .i64 l0.length] 54)).trans (hb2.mono qq74)); clear hb2))
  go_ret
  exact ⟨rfl, HB2.out⟩

end Go.Proofs.Ytgdhgncdpmalcaa.Ring
namespace Go.Proofs.Ytgdhgncdpmalcaa.Ring
open Go.RowKit Go.Shelf Go.Proofs.Ytgdhgncdpmalcaa.Q Go.Proofs.Ytgdhgncdpmalcaa.Drawn Go.Proofs.YtgdhgncdpmalcaaW.PrintWords Go.Proofs.YtgdhgncdpmalcaaW.PrintLast Go.Proofs.YtgdhgncdpmalcaaW.PrintMore
set_option linter.unusedVariables false
set_option linter.unusedSimpArgs false
attribute [local go_sem] Oper.semAt_some

def absW (x : Int) : Int := if x < 0 then wrap64 (-x) else x
theorem absW_f (x : Int) : impl_absInt.f x = some (absW x) := by unfold impl_absInt.f absW; split <;> rfl
def insideR (l0 : List Pt) : Int := wrap64 ((wrap64 (wrap64 (absW (areaS l0 l0.length) - edgeS l0 l0.length) + 2)).tdiv 2)
set_option maxRecDepth 100000 in
set_option maxHeartbeats 4000000 in
theorem polyInside_no (A0 : Option Addr) (c0 : Nat) (l0 : List Pt) (w : World) (hr0 : Kd.C k32 w A0 l0.length l0) (hc0 : l0.length ≤ c0) (h : okS l0 = false) :
    Calls Try.prog 38 #[.slice A0 l0.length c0] w fun e w' => e = .returned (.int .i64 (-1)) ∧ Below w.heap.size w w' := by
  have HR0 := Aside0.mk hr0
  have HC0 := Aside0.mk hc0
  have HX := Aside0.mk h
  clear hr0 hc0 h
  go_enter Try.func38, Try.ntmps38
  go_wp2_with (go_at_call 49; refine (simple_isnt A0 c0 l0 _ ?s1 HC0.out HX.out).mono ?_; (case s1 => exact qq35); rintro e w1 ⟨rfl, hb⟩; have HB := Aside0.mk ((Below.refl w.heap.size w).trans hb); clear hb)
  go_ret
  exact ⟨rfl, HB.out.alloc HB.out.size _⟩

set_option maxRecDepth 100000 in
set_option maxHeartbeats 4000000 in
theorem polyInside_yes (A0 : Option Addr) (c0 : Nat) (l0 : List Pt) (w : World) (hr0 : Kd.C k32 w A0 l0.length l0) (hc0 : l0.length ≤ c0) (h : okS l0 = true) :
    Calls Try.prog 38 #[.slice A0 l0.length c0] w fun e w' => e = .returned (.int .i64 (insideR l0)) ∧ Below w.heap.size w w' := by
  have HR0 := Aside0.mk hr0
  have HC0 := Aside0.mk hc0
  have HX := Aside0.mk h
  clear hr0 hc0 h
  refine (callsIn_wide (n := 0)).1 (callsIn_of_wp Try.func38 rfl trivial ?_ rfl)
  simp only [Try.ntmps38, List.size_toArray, List.length_cons, List.length_nil, Nat.reduceAdd, Nat.reduceSub, Array.replicate_succ, Array.replicate_zero, List.push_toArray, List.append_toArray, List.nil_append, List.cons_append]
  have HF := wide_plain Try.prog
  gi_wp2_with ((first | refine ⟨trivial, rfl, ?_⟩ | refine ⟨rfl, ?_⟩ | skip); gi_at_call 49; refine (callsIn_wide.2 (simple_yes A0 c0 l0 _ HR0.out HC0.out HX.out)).mono ?_; rintro e w1 ⟨bs, rfl, hR, hlo0, hb⟩; have HR := Aside0.mk hR; have HB := Aside0.mk ((Below.refl w.heap.size w).trans hb); clear hb hR hlo0)
  have q0 : (w1.alloc (.cells #[.pointer (some ⟨bs 0, 0, none⟩), .int .i64 l0.length] 54)).cell? ⟨w1.heap.size, 0, none⟩ = some (.pointer (some ⟨bs 0, 0, none⟩)) := by simp [go_sem]
  have q1 : (w1.alloc (.cells #[.pointer (some ⟨bs 0, 0, none⟩), .int .i64 l0.length] 54)).cell? ⟨w1.heap.size, 1, none⟩ = some (.int .i64 l0.length) := by simp [go_sem]
  have hs2 : (w1.alloc (.cells #[.pointer (some ⟨bs 0, 0, none⟩), .int .i64 l0.length] 54)).heap.size = w1.heap.size + 1 := by simp
  have HR2 := Aside0.mk (HR.out.below ((Below.refl _ _).alloc (Nat.le_refl _) (.cells #[.pointer (some ⟨bs 0, 0, none⟩), .int .i64 l0.length] 54)))
  have HB2 := Aside0.mk (HB.out.alloc HB.out.size (.cells #[.pointer (some ⟨bs 0, 0, none⟩), .int .i64 l0.length] 54))
  generalize w1.alloc (.cells #[.pointer (some ⟨bs 0, 0, none⟩), .int .i64 l0.length] 54) = W2 at *
  obtain ⟨VS, hVS⟩ : ∃ VS : List (Option Tmp × Value), [(some 12, .agg #[.pointer (some ⟨bs 0, 0, none⟩), .int .i64 l0.length]), (some 13, .int .i64 (areaS l0 l0.length)), (some 14, .int .i64 (absW (areaS l0 l0.length))), (some 15, .agg #[.pointer (some ⟨bs 0, 0, none⟩), .int .i64 l0.length]), (some 16, .int .i64 (edgeS l0 l0.length)), (some 17, .int .i64 (wrap64 (absW (areaS l0 l0.length) - edgeS l0 l0.length))), (some 18, .int .i64 (wrap64 (wrap64 (absW (areaS l0 l0.length) - edgeS l0 l0.length) + 2))), (some 19, .int .i64 (wrap64 ((wrap64 (wrap64 (absW (areaS l0 l0.length) - edgeS l0 l0.length) + 2)).tdiv 2))), (some 2, .int .i64 (wrap64 ((wrap64 (wrap64 (absW (areaS l0 l0.length) - edgeS l0 l0.length) + 2)).tdiv 2)))] = VS := ⟨_, rfl⟩
  have HN : (VS.filterMap (·.1)).Nodup := by rw [← hVS]; exact (show List.Nodup [(12 : Tmp), (13 : Tmp), (14 : Tmp), (15 : Tmp), (16 : Tmp), (17 : Tmp), (18 : Tmp), (19 : Tmp), (2 : Tmp)] by decide)
  refine act_name fun A0 hA0 => ?_
  have E3 : ∀ L : List Bool, (fill VS L A0).tmps[3]?.getD undef = .pointer (some ⟨w1.heap.size, 0, none⟩) := fun L => fill_old _ _ _ (by rw [← hVS]; exact (show (3 : Tmp) ∉ [(12 : Tmp), (13 : Tmp), (14 : Tmp), (15 : Tmp), (16 : Tmp), (17 : Tmp), (18 : Tmp), (19 : Tmp), (2 : Tmp)] by decide)) (by rw [← hA0]; rfl)
  have hT_ : 19 < A0.tmps.size := by rw [← hA0]; simp
  refine drawn_same (by kernel_rfl) (early_spec (by kernel_rfl)) VS (by rw [← hVS]; rfl) HN (fun w' => Below W2.heap.size W2 w') ((Below.refl _ _).drew) ?_ ?_
  · intro i o v L w' ho hv hpre hS K hK
    have hii : i = 0 ∨ i = 1 ∨ i = 2 ∨ i = 3 ∨ i = 4 ∨ i = 5 ∨ i = 6 ∨ i = 7 ∨ i = 8 := by have hq := (Array.getElem?_eq_some_iff.1 ho).1; simp at hq; omega
    rcases hii with rfl | rfl | rfl | rfl | rfl | rfl | rfl | rfl | rfl
    · obtain rfl := Option.some.inj ho
      obtain rfl := vs_at hVS hv rfl
      have e3 := E3 L
      have c1 := (hS.cell (p := ⟨w1.heap.size, 0, none⟩) (by dsimp only; omega)).trans q0
      have c2 := (hS.cell (p := ⟨w1.heap.size, 1, none⟩) (by dsimp only; omega)).trans q1
      refine st_val HF rfl (by simp) rfl (w' := w') ?_ (hK w' hS)
      generalize fill VS L A0 = A at e3 ⊢
      simp [execOp, go_sem, i64_w, e3, c1, c2]
    · obtain rfl := Option.some.inj ho
      obtain rfl := vs_at hVS hv rfl
      have e12 := fill_get HN hVS hT_ (t := 12) (j := 0) rfl rfl (hpre ⟨0, .data⟩ (by simp) rfl)
      refine st_call HF rfl (by simp) rfl (w := w') (f := 44) (args := #[.agg #[.pointer (some ⟨bs 0, 0, none⟩), .int .i64 l0.length]]) (v := .int .i64 (areaS l0 l0.length)) ?_ ?_
      · generalize fill VS L A0 = A at e12 ⊢
        simp [execOp, resolve, go_sem, e12]
      · refine (area_calls w1.heap.size bs l0 w' (HR2.out.below (hS.mono (by omega))) (by have := hS.size; omega)).mono ?_; rintro e w2 ⟨rfl, hb2⟩; exact ⟨rfl, hK w2 (hS.trans (hb2.mono hS.size))⟩
    · obtain rfl := Option.some.inj ho
      obtain rfl := vs_at hVS hv rfl
      have e13 := fill_get HN hVS hT_ (t := 13) (j := 1) rfl rfl (hpre ⟨1, .data⟩ (by simp) rfl)
      refine st_call HF rfl (by simp) rfl (w := w') (f := 68) (args := #[.int .i64 (areaS l0 l0.length)]) (v := .int .i64 (absW (areaS l0 l0.length))) ?_ ?_
      · generalize fill VS L A0 = A at e13 ⊢
        simp [execOp, resolve, go_sem, e13]
      · refine (impl_absInt.calls _ _ w' (absW_f _)).mono ?_; rintro e w2 ⟨rfl, hb2⟩; obtain ⟨nd, rfl⟩ := hb2; exact ⟨rfl, hK _ (pw_below_drewN hS _)⟩
    · obtain rfl := Option.some.inj ho
      obtain rfl := vs_at hVS hv rfl
      have e3 := E3 L
      have c1 := (hS.cell (p := ⟨w1.heap.size, 0, none⟩) (by dsimp only; omega)).trans q0
      have c2 := (hS.cell (p := ⟨w1.heap.size, 1, none⟩) (by dsimp only; omega)).trans q1
      refine st_val HF rfl (by simp) rfl (w' := w') ?_ (hK w' hS)
      generalize fill VS L A0 = A at e3 ⊢
      simp [execOp, go_sem, i64_w, e3, c1, c2]
    · obtain rfl := Option.some.inj ho
      obtain rfl := vs_at hVS hv rfl
      have e15 := fill_get HN hVS hT_ (t := 15) (j := 3) rfl rfl (hpre ⟨3, .data⟩ (by simp) rfl)
      refine st_call HF rfl (by simp) rfl (w := w') (f := 69) (args := #[.agg #[.pointer (some ⟨bs 0, 0, none⟩), .int .i64 l0.length]]) (v := .int .i64 (edgeS l0 l0.length)) ?_ ?_
      · generalize fill VS L A0 = A at e15 ⊢
        simp [execOp, resolve, go_sem, e15]
      · refine (edge_calls w1.heap.size bs l0 w' (HR2.out.below (hS.mono (by omega))) (by have := hS.size; omega)).mono ?_; rintro e w2 ⟨rfl, hb2⟩; exact ⟨rfl, hK w2 (hS.trans (hb2.mono hS.size))⟩
    · obtain rfl := Option.some.inj ho
      obtain rfl := vs_at hVS hv rfl
      have e14 := fill_get HN hVS hT_ (t := 14) (j := 2) rfl rfl (hpre ⟨2, .data⟩ (by simp) rfl)
      have e16 := fill_get HN hVS hT_ (t := 16) (j := 4) rfl rfl (hpre ⟨4, .data⟩ (by simp) rfl)
      refine st_val HF rfl (by simp) rfl (w' := w') ?_ (hK w' hS)
      generalize fill VS L A0 = A at e14 e16 ⊢
      simp [execOp, go_sem, i64_w, e14, e16]
    · obtain rfl := Option.some.inj ho
      obtain rfl := vs_at hVS hv rfl
      have e17 := fill_get HN hVS hT_ (t := 17) (j := 5) rfl rfl (hpre ⟨5, .data⟩ (by simp) rfl)
      refine st_val HF rfl (by simp) rfl (w' := w') ?_ (hK w' hS)
      generalize fill VS L A0 = A at e17 ⊢
      simp [execOp, go_sem, i64_w, e17]
    · obtain rfl := Option.some.inj ho
      obtain rfl := vs_at hVS hv rfl
      have e18 := fill_get HN hVS hT_ (t := 18) (j := 6) rfl rfl (hpre ⟨6, .data⟩ (by simp) rfl)
      refine st_val HF rfl (by simp) rfl (w' := w') ?_ (hK w' hS)
      generalize fill VS L A0 = A at e18 ⊢
      simp [execOp, go_sem, i64_w, e18]
    · obtain rfl := Option.some.inj ho
      obtain rfl := vs_at hVS hv rfl
      have e19 := fill_get HN hVS hT_ (t := 19) (j := 7) rfl rfl (hpre ⟨7, .data⟩ (by simp) rfl)
      refine st_val HF rfl (by simp) rfl (w' := w') ?_ (hK w' hS)
      generalize fill VS L A0 = A at e19 ⊢
      simp [execOp, go_sem, i64_w, e19]
  · intro w' hS'
    rw [← hVS, ← hA0]
    simp only [List.size_toArray, List.length_cons, List.length_nil, Nat.reduceAdd, List.replicate, fill, if_true, Act.put, List.setIfInBounds_toArray, List.set_cons_succ, List.set_cons_zero]
    clear HN E3 hVS hA0 hT_
    have HS := Aside0.mk hS'
    clear hS'
    gi_wp2
    go_ret
    exact ⟨rfl, HB2.out.trans (HS.out.mono (by have := HB.out.size; omega))⟩

end Go.Proofs.Ytgdhgncdpmalcaa.Ring
namespace Go.Proofs.Ytgdhgncdpmalcaa.Q
open Go.RowKit Go.Proofs.YtgdhgncdpmalcaaW.PrintWords Go.Proofs.YtgdhgncdpmalcaaW.PrintLast Go.Proofs.YtgdhgncdpmalcaaW.PrintMore
attribute [local go_sem] max2_int min2_int max_two min_two max_three min_three max_four min_four
set_option linter.unusedVariables false
set_option linter.unusedSimpArgs false

/-! ### impl_PolyInside: function 38 -/
def impl_PolyInside.f (l0 : List (S32)) : Option (Int) := if Go.Proofs.Ytgdhgncdpmalcaa.Ring.okS l0 then some (Go.Proofs.Ytgdhgncdpmalcaa.Ring.insideR l0) else some (-1)
theorem impl_PolyInside.calls (A0 : Option Addr) (c0 : Nat) (l0 : List (S32)) (r : Int) (w : World) (hr0 : Kd.C k32 w A0 l0.length l0) (hc0 : l0.length ≤ c0) (h : impl_PolyInside.f l0 = some r) :
    Calls Try.prog 38 #[.slice A0 l0.length c0] w fun e w' => e = .returned (.int .i64 r) ∧ Below w.heap.size w w' := by
  unfold impl_PolyInside.f at h
  by_cases c : Go.Proofs.Ytgdhgncdpmalcaa.Ring.okS l0 = true
  · rw [if_pos c] at h
    obtain rfl := Option.some.inj h
    exact Go.Proofs.Ytgdhgncdpmalcaa.Ring.polyInside_yes A0 c0 l0 w hr0 hc0 c
  · rw [if_neg c] at h
    obtain rfl := Option.some.inj h
    exact Go.Proofs.Ytgdhgncdpmalcaa.Ring.polyInside_no A0 c0 l0 w hr0 hc0 (Bool.eq_false_iff.2 c)

end Go.Proofs.Ytgdhgncdpmalcaa.Q
