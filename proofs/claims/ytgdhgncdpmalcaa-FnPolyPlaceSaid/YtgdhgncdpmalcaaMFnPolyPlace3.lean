/- Part 3 of what the proof of this law rests on: the functions of the translation as plain Lean functions with their walks, and the plain laws behind. -/
import Derived.Test.YtgdhgncdpmalcaaMFnPolyPlace2
namespace Go.Proofs.Ytgdhgncdpmalcaa.Q
open Go.RowKit Go.Proofs.YtgdhgncdpmalcaaW.PrintWords Go.Proofs.YtgdhgncdpmalcaaW.PrintLast Go.Proofs.YtgdhgncdpmalcaaW.PrintMore
attribute [local go_sem] max2_int min2_int max_two min_two max_three min_three max_four min_four   -- for this text's walks alone
set_option linter.unusedVariables false
set_option linter.unusedSimpArgs false

/-! ### spec_l92Box: function 59 -/
def spec_l92Box.j0 : Nat → Int → Int → List (S32) → Bool → List Int → Int → Option ((List (S32)) × Int)
  | 0, _, _, _, _, _, _ => none
  | k + 1, x3, x4, x7, x47, x1000, x1001 => if x47 = true then ((some (([(⟨x3, x4⟩ : S32), (⟨wrap64 (x3 + 1), x4⟩ : S32)] : List (S32)) : List (S32))).bind fun y135 => (if 1 ≤ (x7.length : Int) then ((some (x7.drop 1 : List (S32))).bind fun y138 => (if y135.length + y138.length < 8796093022208 then ((some (y135 ++ y138 : List (S32))).bind fun y142 => ((spec_l6Rd_pick.f k x1000 x1001 3).bind fun bt145 => (if bt145.1 = 0 then (if 1 ≤ y142.length ∧ y142.length ≤ 100 then (some (y142.drop 1 ++ [rd_T32 y142 0], bt145.2)) else none) else (some (y142, bt145.2))))) else (none))) else (none))) else ((spec_l6Rd_pick.f k x1000 x1001 3).bind fun bt147 => (if bt147.1 = 0 then (if 1 ≤ x7.length ∧ x7.length ≤ 100 then (some (x7.drop 1 ++ [rd_T32 x7 0], bt147.2)) else none) else (some (x7, bt147.2))))
def spec_l92Box.f (k : Nat) (s0_0 : List Int) (s0_1 : Int) : Option ((List (S32)) × Int) := (spec_l6Rd_pick.f k s0_0 s0_1 5).bind fun bt122 => ((spec_l6Rd_pick.f k s0_0 bt122.2 5).bind fun bt124 => ((spec_l6Rd_pick.f k s0_0 bt124.2 5).bind fun bt126 => ((spec_l6Rd_pick.f k s0_0 bt126.2 5).bind fun bt128 => ((some (([(⟨wrap64 (bt122.1 - 2), wrap64 (bt124.1 - 2)⟩ : S32), (⟨wrap64 ((wrap64 (bt122.1 - 2)) + (wrap64 (1 + bt126.1))), wrap64 (bt124.1 - 2)⟩ : S32), (⟨wrap64 ((wrap64 (bt122.1 - 2)) + (wrap64 (1 + bt126.1))), wrap64 ((wrap64 (bt124.1 - 2)) + (wrap64 (1 + bt128.1)))⟩ : S32), (⟨wrap64 (bt122.1 - 2), wrap64 ((wrap64 (bt124.1 - 2)) + (wrap64 (1 + bt128.1)))⟩ : S32)] : List (S32)) : List (S32))).bind fun y130 => (if (wrap64 (1 + bt126.1)) > 1 then ((spec_l6Rd_pick.f k s0_0 bt128.2 2).bind fun bt133 => (spec_l92Box.j0 k (wrap64 (bt122.1 - 2)) (wrap64 (bt124.1 - 2)) y130 (bt133.1 == 0) s0_0 bt133.2)) else (spec_l92Box.j0 k (wrap64 (bt122.1 - 2)) (wrap64 (bt124.1 - 2)) y130 false s0_0 bt128.2))))))
set_option maxHeartbeats 8000000 in
set_option maxRecDepth 100000 in
theorem spec_l92Box.calls (k : Nat) (g : Nat) (s0_0 : List Int) (s0_1 : Int) (r1 : List (S32)) (r2 : Int) (w0 w : World) (hI : IsS81 w0 w g s0_0 s0_1) (hB : Below w0.heap.size w0 w) (h : spec_l92Box.f k s0_0 s0_1 = some (r1, r2)) :
    Calls Try.prog 59 #[.pointer (some ⟨g, 0, none⟩)] w fun e w' => ∃ v0_ : Value, e = .returned (v0_) ∧ Kd.Q k32 32 w' w.heap.size (fun _ => True) v0_ r1 ∧ IsS81 w0 w' g s0_0 r2 ∧ Below w0.heap.size w0 w' ∧ KeepBut w w' g none := by
  have hu32 := Try.underlying32
  have HI0 := Aside0.mk hI
  have HK := Aside0.mk (KeepBut.refl w g none)
  have HL := Aside0.mk hB.size
  clear hI
  have HW0 := Aside0.mk hB.size
  have HB := Aside0.mk hB
  clear hB
  have H : ((spec_l6Rd_pick.f k s0_0 s0_1 5).bind fun bt122 => ((spec_l6Rd_pick.f k s0_0 bt122.2 5).bind fun bt124 => ((spec_l6Rd_pick.f k s0_0 bt124.2 5).bind fun bt126 => ((spec_l6Rd_pick.f k s0_0 bt126.2 5).bind fun bt128 => ((some (([(⟨wrap64 (bt122.1 - 2), wrap64 (bt124.1 - 2)⟩ : S32), (⟨wrap64 ((wrap64 (bt122.1 - 2)) + (wrap64 (1 + bt126.1))), wrap64 (bt124.1 - 2)⟩ : S32), (⟨wrap64 ((wrap64 (bt122.1 - 2)) + (wrap64 (1 + bt126.1))), wrap64 ((wrap64 (bt124.1 - 2)) + (wrap64 (1 + bt128.1)))⟩ : S32), (⟨wrap64 (bt122.1 - 2), wrap64 ((wrap64 (bt124.1 - 2)) + (wrap64 (1 + bt128.1)))⟩ : S32)] : List (S32)) : List (S32))).bind fun y130 => (if (wrap64 (1 + bt126.1)) > 1 then ((spec_l6Rd_pick.f k s0_0 bt128.2 2).bind fun bt133 => (spec_l92Box.j0 k (wrap64 (bt122.1 - 2)) (wrap64 (bt124.1 - 2)) y130 (bt133.1 == 0) s0_0 bt133.2)) else (spec_l92Box.j0 k (wrap64 (bt122.1 - 2)) (wrap64 (bt124.1 - 2)) y130 false s0_0 bt128.2))))))) = some (r1, r2) := h
  clear h
  replace H := Option.bind_eq_some_iff.mp H
  obtain ⟨⟨t122, t123⟩, A20, H⟩ := H
  replace H : ((spec_l6Rd_pick.f k s0_0 t123 5).bind fun bt124 => ((spec_l6Rd_pick.f k s0_0 bt124.2 5).bind fun bt126 => ((spec_l6Rd_pick.f k s0_0 bt126.2 5).bind fun bt128 => ((some (([(⟨wrap64 (t122 - 2), wrap64 (bt124.1 - 2)⟩ : S32), (⟨wrap64 ((wrap64 (t122 - 2)) + (wrap64 (1 + bt126.1))), wrap64 (bt124.1 - 2)⟩ : S32), (⟨wrap64 ((wrap64 (t122 - 2)) + (wrap64 (1 + bt126.1))), wrap64 ((wrap64 (bt124.1 - 2)) + (wrap64 (1 + bt128.1)))⟩ : S32), (⟨wrap64 (t122 - 2), wrap64 ((wrap64 (bt124.1 - 2)) + (wrap64 (1 + bt128.1)))⟩ : S32)] : List (S32)) : List (S32))).bind fun y130 => (if (wrap64 (1 + bt126.1)) > 1 then ((spec_l6Rd_pick.f k s0_0 bt128.2 2).bind fun bt133 => (spec_l92Box.j0 k (wrap64 (t122 - 2)) (wrap64 (bt124.1 - 2)) y130 (bt133.1 == 0) s0_0 bt133.2)) else (spec_l92Box.j0 k (wrap64 (t122 - 2)) (wrap64 (bt124.1 - 2)) y130 false s0_0 bt128.2)))))) = some (r1, r2) := H
  have A2 := Aside0.mk A20
  clear A20
  replace H := Option.bind_eq_some_iff.mp H
  obtain ⟨⟨t124, t125⟩, A30, H⟩ := H
  replace H : ((spec_l6Rd_pick.f k s0_0 t125 5).bind fun bt126 => ((spec_l6Rd_pick.f k s0_0 bt126.2 5).bind fun bt128 => ((some (([(⟨wrap64 (t122 - 2), wrap64 (t124 - 2)⟩ : S32), (⟨wrap64 ((wrap64 (t122 - 2)) + (wrap64 (1 + bt126.1))), wrap64 (t124 - 2)⟩ : S32), (⟨wrap64 ((wrap64 (t122 - 2)) + (wrap64 (1 + bt126.1))), wrap64 ((wrap64 (t124 - 2)) + (wrap64 (1 + bt128.1)))⟩ : S32), (⟨wrap64 (t122 - 2), wrap64 ((wrap64 (t124 - 2)) + (wrap64 (1 + bt128.1)))⟩ : S32)] : List (S32)) : List (S32))).bind fun y130 => (if (wrap64 (1 + bt126.1)) > 1 then ((spec_l6Rd_pick.f k s0_0 bt128.2 2).bind fun bt133 => (spec_l92Box.j0 k (wrap64 (t122 - 2)) (wrap64 (t124 - 2)) y130 (bt133.1 == 0) s0_0 bt133.2)) else (spec_l92Box.j0 k (wrap64 (t122 - 2)) (wrap64 (t124 - 2)) y130 false s0_0 bt128.2))))) = some (r1, r2) := H
  have A3 := Aside0.mk A30
  clear A30
  replace H := Option.bind_eq_some_iff.mp H
  obtain ⟨⟨t126, t127⟩, A40, H⟩ := H
  replace H : ((spec_l6Rd_pick.f k s0_0 t127 5).bind fun bt128 => ((some (([(⟨wrap64 (t122 - 2), wrap64 (t124 - 2)⟩ : S32), (⟨wrap64 ((wrap64 (t122 - 2)) + (wrap64 (1 + t126))), wrap64 (t124 - 2)⟩ : S32), (⟨wrap64 ((wrap64 (t122 - 2)) + (wrap64 (1 + t126))), wrap64 ((wrap64 (t124 - 2)) + (wrap64 (1 + bt128.1)))⟩ : S32), (⟨wrap64 (t122 - 2), wrap64 ((wrap64 (t124 - 2)) + (wrap64 (1 + bt128.1)))⟩ : S32)] : List (S32)) : List (S32))).bind fun y130 => (if (wrap64 (1 + t126)) > 1 then ((spec_l6Rd_pick.f k s0_0 bt128.2 2).bind fun bt133 => (spec_l92Box.j0 k (wrap64 (t122 - 2)) (wrap64 (t124 - 2)) y130 (bt133.1 == 0) s0_0 bt133.2)) else (spec_l92Box.j0 k (wrap64 (t122 - 2)) (wrap64 (t124 - 2)) y130 false s0_0 bt128.2)))) = some (r1, r2) := H
  have A4 := Aside0.mk A40
  clear A40
  replace H := Option.bind_eq_some_iff.mp H
  obtain ⟨⟨t128, t129⟩, A50, H⟩ := H
  replace H : ((some (([(⟨wrap64 (t122 - 2), wrap64 (t124 - 2)⟩ : S32), (⟨wrap64 ((wrap64 (t122 - 2)) + (wrap64 (1 + t126))), wrap64 (t124 - 2)⟩ : S32), (⟨wrap64 ((wrap64 (t122 - 2)) + (wrap64 (1 + t126))), wrap64 ((wrap64 (t124 - 2)) + (wrap64 (1 + t128)))⟩ : S32), (⟨wrap64 (t122 - 2), wrap64 ((wrap64 (t124 - 2)) + (wrap64 (1 + t128)))⟩ : S32)] : List (S32)) : List (S32))).bind fun y130 => (if (wrap64 (1 + t126)) > 1 then ((spec_l6Rd_pick.f k s0_0 t129 2).bind fun bt133 => (spec_l92Box.j0 k (wrap64 (t122 - 2)) (wrap64 (t124 - 2)) y130 (bt133.1 == 0) s0_0 bt133.2)) else (spec_l92Box.j0 k (wrap64 (t122 - 2)) (wrap64 (t124 - 2)) y130 false s0_0 t129))) = some (r1, r2) := H
  have A5 := Aside0.mk A50
  clear A50
  obtain ⟨y130, hy130⟩ : ∃ y_ : List (S32), y_ = (([(⟨wrap64 (t122 - 2), wrap64 (t124 - 2)⟩ : S32), (⟨wrap64 ((wrap64 (t122 - 2)) + (wrap64 (1 + t126))), wrap64 (t124 - 2)⟩ : S32), (⟨wrap64 ((wrap64 (t122 - 2)) + (wrap64 (1 + t126))), wrap64 ((wrap64 (t124 - 2)) + (wrap64 (1 + t128)))⟩ : S32), (⟨wrap64 (t122 - 2), wrap64 ((wrap64 (t124 - 2)) + (wrap64 (1 + t128)))⟩ : S32)] : List (S32))) := ⟨_, rfl⟩
  replace H : (if (wrap64 (1 + t126)) > 1 then ((spec_l6Rd_pick.f k s0_0 t129 2).bind fun bt133 => (spec_l92Box.j0 k (wrap64 (t122 - 2)) (wrap64 (t124 - 2)) y130 (bt133.1 == 0) s0_0 bt133.2)) else (spec_l92Box.j0 k (wrap64 (t122 - 2)) (wrap64 (t124 - 2)) y130 false s0_0 t129)) = some (r1, r2) := by first | (rw [hy130]; with_reducible exact H) | (have H2_ := (Option.bind_some _ _).symm.trans H; rw [hy130]; with_reducible exact H2_) | (have H2_ := (Option.bind_some _ _).symm.trans H; with_reducible exact H2_) | with_reducible exact H | (rw [hy130]; exact H) | exact H
  have Ny130 := Aside0.mk hy130
  clear hy130
  have HC6 := Aside0.mk H
  clear H
  go_enter Try.func59, Try.ntmps59
  go_upto_region 6 with (first | ((with_reducible refine gate_callee (f := 48) rfl ?_); refine goesL_ (some 9) rfl rfl Try.func48 (by kernel_rfl) rfl #[.pointer (some ⟨g, 0, none⟩), .int .i64 5] rfl (by (try simp only [List.map_toArray, List.map_cons, List.map_nil]); first | done | rfl | (simp only [List.length_drop, List.length_take]; rfl)) ?_; (with_reducible refine (spec_l6Rd_pick.calls k g s0_0 s0_1 5 t122 t123 w0 _ ?side1 ?side2 A2.out).mono ?_); (case side1 => repeat (first | (with_reducible first | exact HI0.out | apply IsS81.alloc | apply IsS81.drewN | apply IsS81.drew | apply IsS81.set_1) | exact HI0.out)); (case side2 => repeat (first | (with_reducible first | exact HB.out | apply below_alloc | apply pw_below_drewN | apply below_drew1 | refine below_set ?_ (IsS81.ge HI0.out)) | exact HB.out)); rintro e w7 ⟨rfl, hi, hb, hk⟩; refine ⟨_, rfl, ?_⟩; have n0_ := Aside0.mk (KeepBut.trans (by repeat (first | (with_reducible first | exact HK.out | apply KeepBut.set_ | apply keep_drewN | apply keep_drew | apply keep_alloc) | exact HK.out)) hk (.inl rfl)); have n1_ := Aside0.mk (hb); have n2_ := Aside0.mk (hi); clear HK; clear HB; clear HI0; have HK := n0_; have HB := n1_; have HI0 := n2_; clear n0_ n1_ n2_; (try clear hb); (try clear hb2); (try clear hk); (try clear hi)) | ((with_reducible refine gate_callee (f := 48) rfl ?_); refine goesL_ (some 12) rfl rfl Try.func48 (by kernel_rfl) rfl #[.pointer (some ⟨g, 0, none⟩), .int .i64 5] rfl (by (try simp only [List.map_toArray, List.map_cons, List.map_nil]); first | done | rfl | (simp only [List.length_drop, List.length_take]; rfl)) ?_; (with_reducible refine (spec_l6Rd_pick.calls k g s0_0 t123 5 t124 t125 w0 _ ?side1 ?side2 A3.out).mono ?_); (case side1 => repeat (first | (with_reducible first | exact HI0.out | apply IsS81.alloc | apply IsS81.drewN | apply IsS81.drew | apply IsS81.set_1) | exact HI0.out)); (case side2 => repeat (first | (with_reducible first | exact HB.out | apply below_alloc | apply pw_below_drewN | apply below_drew1 | refine below_set ?_ (IsS81.ge HI0.out)) | exact HB.out)); rintro e w8 ⟨rfl, hi, hb, hk⟩; refine ⟨_, rfl, ?_⟩; have n0_ := Aside0.mk (KeepBut.trans (by repeat (first | (with_reducible first | exact HK.out | apply KeepBut.set_ | apply keep_drewN | apply keep_drew | apply keep_alloc) | exact HK.out)) hk (.inl rfl)); have n1_ := Aside0.mk (hb); have n2_ := Aside0.mk (hi); clear HK; clear HB; clear HI0; have HK := n0_; have HB := n1_; have HI0 := n2_; clear n0_ n1_ n2_; (try clear hb); (try clear hb2); (try clear hk); (try clear hi)) | ((with_reducible refine gate_callee (f := 48) rfl ?_); refine goesL_ (some 15) rfl rfl Try.func48 (by kernel_rfl) rfl #[.pointer (some ⟨g, 0, none⟩), .int .i64 5] rfl (by (try simp only [List.map_toArray, List.map_cons, List.map_nil]); first | done | rfl | (simp only [List.length_drop, List.length_take]; rfl)) ?_; (with_reducible refine (spec_l6Rd_pick.calls k g s0_0 t125 5 t126 t127 w0 _ ?side1 ?side2 A4.out).mono ?_); (case side1 => repeat (first | (with_reducible first | exact HI0.out | apply IsS81.alloc | apply IsS81.drewN | apply IsS81.drew | apply IsS81.set_1) | exact HI0.out)); (case side2 => repeat (first | (with_reducible first | exact HB.out | apply below_alloc | apply pw_below_drewN | apply below_drew1 | refine below_set ?_ (IsS81.ge HI0.out)) | exact HB.out)); rintro e w9 ⟨rfl, hi, hb, hk⟩; refine ⟨_, rfl, ?_⟩; have n0_ := Aside0.mk (KeepBut.trans (by repeat (first | (with_reducible first | exact HK.out | apply KeepBut.set_ | apply keep_drewN | apply keep_drew | apply keep_alloc) | exact HK.out)) hk (.inl rfl)); have n1_ := Aside0.mk (hb); have n2_ := Aside0.mk (hi); clear HK; clear HB; clear HI0; have HK := n0_; have HB := n1_; have HI0 := n2_; clear n0_ n1_ n2_; (try clear hb); (try clear hb2); (try clear hk); (try clear hi)) | ((with_reducible refine gate_callee (f := 48) rfl ?_); refine goesL_ (some 18) rfl rfl Try.func48 (by kernel_rfl) rfl #[.pointer (some ⟨g, 0, none⟩), .int .i64 5] rfl (by (try simp only [List.map_toArray, List.map_cons, List.map_nil]); first | done | rfl | (simp only [List.length_drop, List.length_take]; rfl)) ?_; (with_reducible refine (spec_l6Rd_pick.calls k g s0_0 t127 5 t128 t129 w0 _ ?side1 ?side2 A5.out).mono ?_); (case side1 => repeat (first | (with_reducible first | exact HI0.out | apply IsS81.alloc | apply IsS81.drewN | apply IsS81.drew | apply IsS81.set_1) | exact HI0.out)); (case side2 => repeat (first | (with_reducible first | exact HB.out | apply below_alloc | apply pw_below_drewN | apply below_drew1 | refine below_set ?_ (IsS81.ge HI0.out)) | exact HB.out)); rintro e w10 ⟨rfl, hi, hb, hk⟩; refine ⟨_, rfl, ?_⟩; have n0_ := Aside0.mk (KeepBut.trans (by repeat (first | (with_reducible first | exact HK.out | apply KeepBut.set_ | apply keep_drewN | apply keep_drew | apply keep_alloc) | exact HK.out)) hk (.inl rfl)); have n1_ := Aside0.mk (hb); have n2_ := Aside0.mk (hi); clear HK; clear HB; clear HI0; have HK := n0_; have HB := n1_; have HI0 := n2_; clear n0_ n1_ n2_; (try clear hb); (try clear hb2); (try clear hk); (try clear hi)) | ((with_reducible refine gate_dst (N := 40) rfl ?_); refine Kd.R_lit k32 _ 32 ?hg (N := 40) ?hd (xs := ([(⟨wrap64 (t122 - 2), wrap64 (t124 - 2)⟩ : S32), (⟨wrap64 ((wrap64 (t122 - 2)) + (wrap64 (1 + t126))), wrap64 (t124 - 2)⟩ : S32), (⟨wrap64 ((wrap64 (t122 - 2)) + (wrap64 (1 + t126))), wrap64 ((wrap64 (t124 - 2)) + (wrap64 (1 + t128)))⟩ : S32), (⟨wrap64 (t122 - 2), wrap64 ((wrap64 (t124 - 2)) + (wrap64 (1 + t128)))⟩ : S32)] : List (S32))) (inner := [.int .i64 (wrap64 (t122 - 2)), .int .i64 (wrap64 (t124 - 2)), .int .i64 (wrap64 ((wrap64 (t122 - 2)) + (wrap64 (1 + t126)))), .int .i64 (wrap64 (t124 - 2)), .int .i64 (wrap64 ((wrap64 (t122 - 2)) + (wrap64 (1 + t126)))), .int .i64 (wrap64 ((wrap64 (t124 - 2)) + (wrap64 (1 + t128)))), .int .i64 (wrap64 (t122 - 2)), .int .i64 (wrap64 ((wrap64 (t124 - 2)) + (wrap64 (1 + t128))))]) (ok := fun _ => True) (okp := fun _ => True) ?hr ?hp (fun _ hk => hk) trivial (Below.refl _ _) (Nat.le_refl _) (by simp) ?_; (case hd => rfl); (case hg => rfl); (case hr => first | (go_simp; done) | (go_simp; rfl)); (case hp => exact (Reps.c2 (show Kd.M k32 _ _ _ (⟨wrap64 (t122 - 2), wrap64 (t124 - 2)⟩ : S32) [.int .i64 (wrap64 (t122 - 2)), .int .i64 (wrap64 (t124 - 2))] from (k32_mkM _ _ _ (⟨wrap64 (t122 - 2), wrap64 (t124 - 2)⟩ : S32) )) (Reps.c2 (show Kd.M k32 _ _ _ (⟨wrap64 ((wrap64 (t122 - 2)) + (wrap64 (1 + t126))), wrap64 (t124 - 2)⟩ : S32) [.int .i64 (wrap64 ((wrap64 (t122 - 2)) + (wrap64 (1 + t126)))), .int .i64 (wrap64 (t124 - 2))] from (k32_mkM _ _ _ (⟨wrap64 ((wrap64 (t122 - 2)) + (wrap64 (1 + t126))), wrap64 (t124 - 2)⟩ : S32) )) (Reps.c2 (show Kd.M k32 _ _ _ (⟨wrap64 ((wrap64 (t122 - 2)) + (wrap64 (1 + t126))), wrap64 ((wrap64 (t124 - 2)) + (wrap64 (1 + t128)))⟩ : S32) [.int .i64 (wrap64 ((wrap64 (t122 - 2)) + (wrap64 (1 + t126)))), .int .i64 (wrap64 ((wrap64 (t124 - 2)) + (wrap64 (1 + t128))))] from (k32_mkM _ _ _ (⟨wrap64 ((wrap64 (t122 - 2)) + (wrap64 (1 + t126))), wrap64 ((wrap64 (t124 - 2)) + (wrap64 (1 + t128)))⟩ : S32) )) (Reps.c2 (show Kd.M k32 _ _ _ (⟨wrap64 (t122 - 2), wrap64 ((wrap64 (t124 - 2)) + (wrap64 (1 + t128)))⟩ : S32) [.int .i64 (wrap64 (t122 - 2)), .int .i64 (wrap64 ((wrap64 (t124 - 2)) + (wrap64 (1 + t128))))] from (k32_mkM _ _ _ (⟨wrap64 (t122 - 2), wrap64 ((wrap64 (t124 - 2)) + (wrap64 (1 + t128)))⟩ : S32) )) (Reps.none _ _)))))); intro v131 w11 ho12 hb hg_ hnew_; clear hg_ hnew_; (first | rw [← Ny130.out] at ho12 | (simp only [Int.reduceToNat] at ho12; rw [← Ny130.out] at ho12)); have n0_ := Aside0.mk (Kd.R_lower ho12 (keep_size (w := w) (g := g) (row := none) (by repeat (first | (with_reducible first | exact HK.out | apply KeepBut.set_ | apply keep_drewN | apply keep_drew | apply keep_alloc) | exact HK.out)))); have n1_ := Aside0.mk (IsS81.below (by repeat (first | (with_reducible first | exact HI0.out | apply IsS81.alloc | apply IsS81.drewN | apply IsS81.drew | apply IsS81.set_1) | exact HI0.out)) hb); have n2_ := Aside0.mk (KeepBut.trans (by repeat (first | (with_reducible first | exact HK.out | apply KeepBut.set_ | apply keep_drewN | apply keep_drew | apply keep_alloc) | exact HK.out)) (KeepBut.of_below hb g none) (.inl rfl)); have n3_ := Aside0.mk (below_step (by repeat (first | (with_reducible first | exact HB.out | apply below_alloc | apply pw_below_drewN | apply below_drew1 | refine below_set ?_ (IsS81.ge HI0.out)) | exact HB.out)) hb); clear HI0; clear HK; clear HB; have HO132 := n0_; have HI0 := n1_; have HK := n2_; have HB := n3_; clear n0_ n1_ n2_ n3_; clear hb ho12))
  (try simp only [Act.put, List.setIfInBounds_toArray, List.set_cons_zero, List.set_cons_succ])
  go_cut [47] (fun v47 wc => ∃ (kq : Nat) (x47_5 : Bool) (x1001_5 : Int), v47 = .bool x47_5 ∧ Aside0 (spec_l92Box.j0 kq (wrap64 (t122 - 2)) (wrap64 (t124 - 2)) y130 x47_5 s0_0 x1001_5 = some (r1, r2)) ∧ Aside0 (kq ≤ k) ∧ Aside0 (Kd.R k32 32 wc w.heap.size (fun _ => True) v131 y130) ∧ Aside0 (IsS81 w0 wc g s0_0 x1001_5) ∧ Aside0 (KeepBut w wc g none) ∧ Aside0 (Below w0.heap.size w0 wc))
  case first =>
    have H := HC6.out
    clear HC6
    by_cases c13 : (wrap64 (1 + t126)) > 1
    · rw [if_pos c13] at H
      have c13b0 : decide (1 < (wrap64 (1 + t126))) = true := decide_eq_true c13
      clear c13
      (first | rw [c13b0] | (simp only [i64_w, i32_w]; rw [c13b0]) | skip)
      replace H := Option.bind_eq_some_iff.mp H
      obtain ⟨⟨t133, t134⟩, A140, H⟩ := H
      replace H : (spec_l92Box.j0 k (wrap64 (t122 - 2)) (wrap64 (t124 - 2)) y130 (t133 == 0) s0_0 t134) = some (r1, r2) := H
      have A14 := Aside0.mk A140
      clear A140
      have H' := Aside0.mk H
      clear H
      go_wp2_with (first | (go_at_call 48; (with_reducible refine (spec_l6Rd_pick.calls k g s0_0 t129 2 t133 t134 w0 _ ?side1 ?side2 A14.out).mono ?_); (case side1 => repeat (first | (with_reducible first | exact HI0.out | apply IsS81.alloc | apply IsS81.drewN | apply IsS81.drew | apply IsS81.set_1) | exact HI0.out)); (case side2 => repeat (first | (with_reducible first | exact HB.out | apply below_alloc | apply pw_below_drewN | apply below_drew1 | refine below_set ?_ (IsS81.ge HI0.out)) | exact HB.out)); rintro e w15 ⟨rfl, hi, hb, hk⟩; have n0_ := Aside0.mk (Kd.R_mono (Kd.R_keep (IsS81.apart (show IsS81 w0 _ g s0_0 t129 from by repeat (first | (with_reducible first | exact HI0.out | apply IsS81.alloc | apply IsS81.drewN | apply IsS81.drew | apply IsS81.set_1) | exact HI0.out)) (by (with_reducible repeat (first | apply Kd.R_alloc | apply Kd.R_drewN | apply Kd.R_drew)); exact HO132.out) (by decide)) hk (fun _ h => h.2)) (fun _ h => h.1)); have n1_ := Aside0.mk (KeepBut.trans (by repeat (first | (with_reducible first | exact HK.out | apply KeepBut.set_ | apply keep_drewN | apply keep_drew | apply keep_alloc) | exact HK.out)) hk (.inl rfl)); have n2_ := Aside0.mk (hb); have n3_ := Aside0.mk (hi); clear HO132; clear HK; clear HB; clear HI0; have HO132 := n0_; have HK := n1_; have HB := n2_; have HI0 := n3_; clear n0_ n1_ n2_ n3_; (try clear hb); (try clear hb2); (try clear hk); (try clear hi)))
      go_meet
      case rel => exact ⟨_, ((t133 == 0)), (t134), (by first | rfl | (simp; done) | (simp [*]; done)), H', ⟨by first | omega | exact Nat.le_refl _⟩, ⟨by (with_reducible repeat (first | apply Kd.R_alloc | apply Kd.R_drewN | apply Kd.R_drew)); exact HO132.out⟩, ⟨by repeat (first | (with_reducible first | exact HI0.out | apply IsS81.alloc | apply IsS81.drewN | apply IsS81.drew | apply IsS81.set_1) | exact HI0.out)⟩, ⟨by repeat (first | (with_reducible first | exact HK.out | apply KeepBut.set_ | apply keep_drewN | apply keep_drew | apply keep_alloc) | exact HK.out)⟩, ⟨by repeat (first | (with_reducible first | exact HB.out | apply below_alloc | apply pw_below_drewN | apply below_drew1 | refine below_set ?_ (IsS81.ge HI0.out)) | exact HB.out)⟩⟩
    · rw [if_neg c13] at H
      have c13b0 : decide (1 < (wrap64 (1 + t126))) = false := decide_eq_false c13
      clear c13
      (first | rw [c13b0] | (simp only [i64_w, i32_w]; rw [c13b0]) | skip)
      have H' := Aside0.mk H
      clear H
      go_wp2
      go_meet
      case rel => exact ⟨_, (false), (t129), (by first | rfl | (simp; done) | (simp [*]; done)), H', ⟨by first | omega | exact Nat.le_refl _⟩, ⟨by (with_reducible repeat (first | apply Kd.R_alloc | apply Kd.R_drewN | apply Kd.R_drew)); exact HO132.out⟩, ⟨by repeat (first | (with_reducible first | exact HI0.out | apply IsS81.alloc | apply IsS81.drewN | apply IsS81.drew | apply IsS81.set_1) | exact HI0.out)⟩, ⟨by repeat (first | (with_reducible first | exact HK.out | apply KeepBut.set_ | apply keep_drewN | apply keep_drew | apply keep_alloc) | exact HK.out)⟩, ⟨by repeat (first | (with_reducible first | exact HB.out | apply below_alloc | apply pw_below_drewN | apply below_drew1 | refine below_set ?_ (IsS81.ge HI0.out)) | exact HB.out)⟩⟩
  case rest =>
    clear HC6
    try clear c1
    try clear c2
    try clear p2
    try clear c4
    try clear c5
    try clear p6
    try clear c13
    try clear c13b0
    obtain ⟨kq, x47_5, x1001_5, rfl, HA, HJ5, HO_7, HI0, HK, HB⟩ := hcut
    cases kq with
    | zero => exact absurd HA.out (by simp [spec_l92Box.j0])
    | succ kj5 =>
      have H := HA.out
      clear HA
      simp only [spec_l92Box.j0] at H
      by_cases c16 : x47_5 = true
      · subst c16
        have H1 : ((some (([(⟨(wrap64 (t122 - 2)), (wrap64 (t124 - 2))⟩ : S32), (⟨wrap64 ((wrap64 (t122 - 2)) + 1), (wrap64 (t124 - 2))⟩ : S32)] : List (S32)) : List (S32))).bind fun y135 => (if 1 ≤ (y130.length : Int) then ((some (y130.drop 1 : List (S32))).bind fun y138 => (if y135.length + y138.length < 8796093022208 then ((some (y135 ++ y138 : List (S32))).bind fun y142 => ((spec_l6Rd_pick.f kj5 s0_0 x1001_5 3).bind fun bt145 => (if bt145.1 = 0 then (if 1 ≤ y142.length ∧ y142.length ≤ 100 then (some (y142.drop 1 ++ [rd_T32 y142 0], bt145.2)) else none) else (some (y142, bt145.2))))) else (none))) else (none))) = some (r1, r2) := by rw [if_pos rfl] at H; exact H
        clear H
        have H := H1
        clear H1
        obtain ⟨y135, hy135⟩ : ∃ y_ : List (S32), y_ = (([(⟨(wrap64 (t122 - 2)), (wrap64 (t124 - 2))⟩ : S32), (⟨wrap64 ((wrap64 (t122 - 2)) + 1), (wrap64 (t124 - 2))⟩ : S32)] : List (S32))) := ⟨_, rfl⟩
        replace H : (if 1 ≤ (y130.length : Int) then ((some (y130.drop 1 : List (S32))).bind fun y138 => (if y135.length + y138.length < 8796093022208 then ((some (y135 ++ y138 : List (S32))).bind fun y142 => ((spec_l6Rd_pick.f kj5 s0_0 x1001_5 3).bind fun bt145 => (if bt145.1 = 0 then (if 1 ≤ y142.length ∧ y142.length ≤ 100 then (some (y142.drop 1 ++ [rd_T32 y142 0], bt145.2)) else none) else (some (y142, bt145.2))))) else (none))) else (none)) = some (r1, r2) := by first | (rw [hy135]; with_reducible exact H) | (have H2_ := (Option.bind_some _ _).symm.trans H; rw [hy135]; with_reducible exact H2_) | (have H2_ := (Option.bind_some _ _).symm.trans H; with_reducible exact H2_) | with_reducible exact H | (rw [hy135]; exact H) | exact H
        have Ny135 := Aside0.mk hy135
        clear hy135
        by_cases c17 : 1 ≤ (y130.length : Int)
        · rw [if_pos c17] at H
          have c17b0 := eq_true c17
          have c17b1 : decide (1 ≤ (y130.length : Int)) = true := decide_eq_true c17
          clear c17
          obtain ⟨y138, hy138⟩ : ∃ y_ : List (S32), y_ = (y130.drop 1) := ⟨_, rfl⟩
          replace H : (if y135.length + y138.length < 8796093022208 then ((some (y135 ++ y138 : List (S32))).bind fun y142 => ((spec_l6Rd_pick.f kj5 s0_0 x1001_5 3).bind fun bt145 => (if bt145.1 = 0 then (if 1 ≤ y142.length ∧ y142.length ≤ 100 then (some (y142.drop 1 ++ [rd_T32 y142 0], bt145.2)) else none) else (some (y142, bt145.2))))) else (none)) = some (r1, r2) := by first | (rw [hy138]; with_reducible exact H) | (have H2_ := (Option.bind_some _ _).symm.trans H; rw [hy138]; with_reducible exact H2_) | (have H2_ := (Option.bind_some _ _).symm.trans H; with_reducible exact H2_) | with_reducible exact H | (rw [hy138]; exact H) | exact H
          have Ny138 := Aside0.mk hy138
          clear hy138
          by_cases c18 : y135.length + y138.length < 8796093022208
          · rw [if_pos c18] at H
            have LMc18 := Aside0.mk c18
            clear c18
            obtain ⟨y142, hy142⟩ : ∃ y_ : List (S32), y_ = (y135 ++ y138) := ⟨_, rfl⟩
            replace H : ((spec_l6Rd_pick.f kj5 s0_0 x1001_5 3).bind fun bt145 => (if bt145.1 = 0 then (if 1 ≤ y142.length ∧ y142.length ≤ 100 then (some (y142.drop 1 ++ [rd_T32 y142 0], bt145.2)) else none) else (some (y142, bt145.2)))) = some (r1, r2) := by first | (rw [hy142]; with_reducible exact H) | (have H2_ := (Option.bind_some _ _).symm.trans H; rw [hy142]; with_reducible exact H2_) | (have H2_ := (Option.bind_some _ _).symm.trans H; with_reducible exact H2_) | with_reducible exact H | (rw [hy142]; exact H) | exact H
            have Ny142 := Aside0.mk hy142
            clear hy142
            replace H := Option.bind_eq_some_iff.mp H
            obtain ⟨⟨t145, t146⟩, A190, H⟩ := H
            replace H : (if t145 = 0 then (if 1 ≤ y142.length ∧ y142.length ≤ 100 then (some (y142.drop 1 ++ [rd_T32 y142 0], t146)) else none) else (some (y142, t146))) = some (r1, r2) := H
            have A19 := Aside0.mk A190
            clear A190
            by_cases c20 : t145 = 0
            · rw [if_pos c20] at H
              have c20b0 : (t145 == 0) = true := beq_iff_eq.mpr c20
              have c20b1 : (t145 != 0) = false := bne_eq_false_iff_eq.mpr c20
              clear c20
              by_cases hl9 : 1 ≤ y142.length ∧ y142.length ≤ 100
              case neg => rw [if_neg hl9] at H; exact absurd H (by simp)
              rw [if_pos hl9] at H
              simp only [Option.some.injEq, Prod.mk.injEq] at H
              obtain ⟨hr1, rfl⟩ := H; have HR1 := Aside0.mk hr1; clear hr1
              go_wp2_with (first | ((with_reducible refine gate_dst (N := 55) rfl ?_); refine Kd.R_lit k32 _ 32 ?hg (N := 55) ?hd (xs := ([(⟨(wrap64 (t122 - 2)), (wrap64 (t124 - 2))⟩ : S32), (⟨wrap64 ((wrap64 (t122 - 2)) + 1), (wrap64 (t124 - 2))⟩ : S32)] : List (S32))) (inner := [.int .i64 (wrap64 (t122 - 2)), .int .i64 (wrap64 (t124 - 2)), .int .i64 (wrap64 ((wrap64 (t122 - 2)) + 1)), .int .i64 (wrap64 (t124 - 2))]) (ok := fun _ => True) (okp := fun _ => True) ?hr ?hp (fun _ hk => hk) trivial (Below.refl _ _) (Nat.le_refl _) (by simp) ?_; (case hd => rfl); (case hg => rfl); (case hr => first | (go_simp; done) | (go_simp; rfl)); (case hp => exact (Reps.c2 (show Kd.M k32 _ _ _ (⟨(wrap64 (t122 - 2)), (wrap64 (t124 - 2))⟩ : S32) [.int .i64 (wrap64 (t122 - 2)), .int .i64 (wrap64 (t124 - 2))] from (k32_mkM _ _ _ (⟨(wrap64 (t122 - 2)), (wrap64 (t124 - 2))⟩ : S32) )) (Reps.c2 (show Kd.M k32 _ _ _ (⟨wrap64 ((wrap64 (t122 - 2)) + 1), (wrap64 (t124 - 2))⟩ : S32) [.int .i64 (wrap64 ((wrap64 (t122 - 2)) + 1)), .int .i64 (wrap64 (t124 - 2))] from (k32_mkM _ _ _ (⟨wrap64 ((wrap64 (t122 - 2)) + 1), (wrap64 (t124 - 2))⟩ : S32) )) (Reps.none _ _)))); intro v136 w21 ho22 hb hg_ hnew_; clear hg_ hnew_; (first | rw [← Ny135.out] at ho22 | (simp only [Int.reduceToNat] at ho22; rw [← Ny135.out] at ho22)); have n0_ := Aside0.mk (Kd.R_elder' (by (with_reducible repeat (first | apply Kd.R_alloc | apply Kd.R_drewN | apply Kd.R_drew)); exact HO_7.out) (Kd.R_base ho22) hb); have n1_ := Aside0.mk (Kd.R_lower (Kd.R_new' ho22 (Kd.R_lt (by (with_reducible repeat (first | apply Kd.R_alloc | apply Kd.R_drewN | apply Kd.R_drew)); exact HO_7.out))) (keep_size (w := w) (g := g) (row := none) (by repeat (first | (with_reducible first | exact HK.out | apply KeepBut.set_ | apply keep_drewN | apply keep_drew | apply keep_alloc) | exact HK.out)))); have n2_ := Aside0.mk (IsS81.below (by repeat (first | (with_reducible first | exact HI0.out | apply IsS81.alloc | apply IsS81.drewN | apply IsS81.drew | apply IsS81.set_1) | exact HI0.out)) hb); have n3_ := Aside0.mk (KeepBut.trans (by repeat (first | (with_reducible first | exact HK.out | apply KeepBut.set_ | apply keep_drewN | apply keep_drew | apply keep_alloc) | exact HK.out)) (KeepBut.of_below hb g none) (.inl rfl)); have n4_ := Aside0.mk (below_step (by repeat (first | (with_reducible first | exact HB.out | apply below_alloc | apply pw_below_drewN | apply below_drew1 | refine below_set ?_ (IsS81.ge HI0.out)) | exact HB.out)) hb); clear HO_7; clear HI0; clear HK; clear HB; have HO_7 := n0_; have HO137 := n1_; have HI0 := n2_; have HK := n3_; have HB := n4_; clear n0_ n1_ n2_ n3_ n4_; clear hb ho22; obtain ⟨Ao24, co24, eo24⟩ := Kd.R_slice HO_7.out; subst eo24; have q23 : (1 : Int) ≤ ((y130.length : Int) : Int) := of_decide_eq_true (by first | (with_reducible assumption) | assumption); obtain ⟨i023, hi023, _, hsz23, _⟩ := info_parts info32; have hroom23 : y130.length ≤ co24 := (Kd.R_reads' HO_7.out).2.1; have hC23 : Kd.C k32 _ Ao24 y130.length y130 := (Kd.R_reads' HO_7.out).2.2; have hcut23 := cut_from (P := Try.prog) 23 32 .i64 Try.underlying23 hi023 2 hsz23 Ao24 y130.length co24 1 (by omega) q23; have hr23 := Kd.C_drop (m := (1 : Int).toNat) (c := co24) hC23 (by omega) hroom23; obtain ⟨A23, hA23⟩ : ∃ Az_, Az_ = (if co24 = (1 : Int).toNat then Ao24 else (Ao24 : Option Addr).map (·.add ((1 : Int).toNat * 2))) := ⟨_, rfl⟩; obtain ⟨c23, hc23⟩ : ∃ cz_, cz_ = co24 - (1 : Int).toNat := ⟨_, rfl⟩; have hy23 : y138.length = y130.length - (1 : Int).toNat := (by rw [Ny138.out, List.length_drop] <;> omega); rw [show (y130).drop (1 : Int).toNat = y138 from Ny138.out.symm] at hr23; replace hr23 : Kd.C k32 _ A23 y138.length y138 := (by rw [hA23]; exact hr23); rw [← hy23, ← hA23, ← hc23] at hcut23; have HR141 := Aside0.mk hr23; have HC141 := Aside0.mk (show y138.length ≤ c23 from by rw [hy23, hc23]; exact Nat.sub_le_sub_right hroom23 _); clear hr23 hC23 hroom23 hi023 hsz23 hc23; have KY23 := Aside0.mk hy23; have KA23 := Aside0.mk hA23; clear hy23 hA23; have KL23 := Aside0.mk (show 1 ≤ y130.length from by omega); replace q23 := eq_true q23) | ((with_reducible refine gate_builtin (b := .append) (xs := #[.tmp 55, .tmp 57]) rfl ?_); at_builtin; refine Kd.R_append_rows k32 w.heap.size rfl (.tmp 55) (.tmp 57) 23 32 (.agg #[(.int .i64 0), (.int .i64 0)]) 16 rfl Try.underlying23 info32 rfl (by decide) (by omega) v136 y135 y138 _ _ _ (fun k_ => some k_ ≠ (.slice Ao24 y130.length co24 : Value).ownBlock) (fun _ => False) rfl rfl ?aO ?aR (fun _ _ h => h) (fun _ h => h.elim) ?aF (Below.refl _ _) ?aS ?aL ?_; (case aR => repeat (first | exact (by repeat (first | (with_reducible exact HR141.out) | (with_reducible refine Kd.C_alloc ?_ _) | (with_reducible refine Kd.C_drewN ?_ _) | (with_reducible refine Kd.C_drew ?_) | exact HR141.out)) | (with_reducible refine Kd.C_alloc ?_ _) | (with_reducible refine Kd.C_drewN ?_ _) | (with_reducible refine Kd.C_drew ?_))); (case aF => exact (fun k_ hk => Kd.fresh' (Kd.R_lt (by (with_reducible repeat (first | apply Kd.R_alloc | apply Kd.R_drewN | apply Kd.R_drew)); exact HO_7.out)) k_ hk)); (case aO => exact (by (with_reducible repeat (first | apply Kd.R_alloc | apply Kd.R_drewN | apply Kd.R_drew)); exact Kd.R_mono HO137.out (fun _ hk => hk.2))); (case aS => exact (keep_size (w := w) (g := g) (row := none) (by repeat (first | (with_reducible first | exact HK.out | apply KeepBut.set_ | apply keep_drewN | apply keep_drew | apply keep_alloc) | exact HK.out)))); (case aL => have := LMc18.out; omega); intro v143 w25 ho hb hg hat; rw [← Ny142.out] at ho; have n0_ := Aside0.mk (Kd.R_after (ok := (fun _ => True)) (by (with_reducible repeat (first | apply Kd.R_alloc | apply Kd.R_drewN | apply Kd.R_drew)); exact HO_7.out) hg hat); have n1_ := Aside0.mk (IsS81.grown (by repeat (first | (with_reducible first | exact HI0.out | apply IsS81.alloc | apply IsS81.drewN | apply IsS81.drew | apply IsS81.set_1) | exact HI0.out)) hg (IsS81.own_ne HI0.out HO137.out (by decide))); have n2_ := Aside0.mk (below_weaken (by repeat (first | (with_reducible first | exact HB.out | apply below_alloc | apply pw_below_drewN | apply below_drew1 | refine below_set ?_ (IsS81.ge HI0.out)) | exact HB.out)) HL.out hb); have n3_ := Aside0.mk (KeepBut.trans (by repeat (first | (with_reducible first | exact HK.out | apply KeepBut.set_ | apply keep_drewN | apply keep_drew | apply keep_alloc) | exact HK.out)) (KeepBut.of_grown hg g) (Kd.R_base2 HO137.out)); have n4_ := Aside0.mk ((show Kd.C k32 w25 A23 y138.length y138 from by rw [Ny138.out, KA23.out]; exact Kd.C_drop (m := 1) (c := co24) ((Kd.R_reads' (Kd.R_after (ok := (fun _ => True)) (by (with_reducible repeat (first | apply Kd.R_alloc | apply Kd.R_drewN | apply Kd.R_drew)); exact HO_7.out) hg hat)).2.2) KL23.out ((Kd.R_reads' (Kd.R_after (ok := (fun _ => True)) (by (with_reducible repeat (first | apply Kd.R_alloc | apply Kd.R_drewN | apply Kd.R_drew)); exact HO_7.out) hg hat)).2.1))); have n5_ := Aside0.mk (ho); clear HO_7; clear HI0; clear HB; clear HK; clear HR141; clear HO137; have HO_7 := n0_; have HI0 := n1_; have HB := n2_; have HK := n3_; have HR141 := n4_; have HO144 := n5_; clear n0_ n1_ n2_ n3_ n4_ n5_; clear ho hb hg hat) | ((with_reducible refine gate_callee (f := 48) rfl ?_); refine goesL_ (some 60) rfl rfl Try.func48 (by kernel_rfl) rfl #[.pointer (some ⟨g, 0, none⟩), .int .i64 3] rfl (by (try simp only [List.map_toArray, List.map_cons, List.map_nil]); first | done | rfl | (simp only [List.length_drop, List.length_take]; rfl)) ?_; (with_reducible refine (spec_l6Rd_pick.calls kj5 g s0_0 x1001_5 3 t145 t146 w0 _ ?side1 ?side2 A19.out).mono ?_); (case side1 => repeat (first | (with_reducible first | exact HI0.out | apply IsS81.alloc | apply IsS81.drewN | apply IsS81.drew | apply IsS81.set_1) | exact HI0.out)); (case side2 => repeat (first | (with_reducible first | exact HB.out | apply below_alloc | apply pw_below_drewN | apply below_drew1 | refine below_set ?_ (IsS81.ge HI0.out)) | exact HB.out)); rintro e w26 ⟨rfl, hi, hb, hk⟩; refine ⟨_, rfl, ?_⟩; have n0_ := Aside0.mk (Kd.R_mono (Kd.R_keep (IsS81.apart (show IsS81 w0 _ g s0_0 x1001_5 from by repeat (first | (with_reducible first | exact HI0.out | apply IsS81.alloc | apply IsS81.drewN | apply IsS81.drew | apply IsS81.set_1) | exact HI0.out)) (by (with_reducible repeat (first | apply Kd.R_alloc | apply Kd.R_drewN | apply Kd.R_drew)); exact HO_7.out) (by decide)) hk (fun _ h => h.2)) (fun _ h => h.1)); have n1_ := Aside0.mk (Kd.R_mono (Kd.R_keep (IsS81.apart (show IsS81 w0 _ g s0_0 x1001_5 from by repeat (first | (with_reducible first | exact HI0.out | apply IsS81.alloc | apply IsS81.drewN | apply IsS81.drew | apply IsS81.set_1) | exact HI0.out)) (by (with_reducible repeat (first | apply Kd.R_alloc | apply Kd.R_drewN | apply Kd.R_drew)); exact HO144.out) (by decide)) hk (fun _ h => h.2)) (fun _ h => h.1)); have n2_ := Aside0.mk (KeepBut.trans (by repeat (first | (with_reducible first | exact HK.out | apply KeepBut.set_ | apply keep_drewN | apply keep_drew | apply keep_alloc) | exact HK.out)) hk (.inl rfl)); have n3_ := Aside0.mk (hb); have n4_ := Aside0.mk (hi); clear HO_7; clear HO144; clear HK; clear HB; clear HI0; have HO_7 := n0_; have HO144 := n1_; have HK := n2_; have HB := n3_; have HI0 := n4_; clear n0_ n1_ n2_ n3_ n4_; (try clear hb); (try clear hb2); (try clear hk); (try clear hi)))
              obtain ⟨WW, hWW, hR9⟩ : ∃ WW : World, WW = _ ∧ Kd.R k32 32 WW w.heap.size (fun _ => True) _ y142 := ⟨_, rfl, Kd.R_mono (ok' := fun _ => True) HO144.out (fun _ _ => trivial)⟩
              subst hWW
              obtain ⟨gq, cq, eq_, _, _, _⟩ := Kd.R_form hR9 (by omega)
              (first | subst eq_ | (injection eq_ with ea_ en_ ec_; (first | subst ea_ | (injection ea_ with ea_; subst ea_)); subst ec_; clear en_))
              have hQ9 := Kd.Q_of_R hR9
              have hc9 := (Kd.R_reads' hR9).2.1
              have hd9 := Kd.Q_drop (k := 1) hQ9 (by omega)
              obtain ⟨vc, hvc⟩ : ∃ vc, Value.slice (if cq = 1 then (some ⟨gq, 0, none⟩ : Option Addr) else (some ⟨gq, 0, none⟩ : Option Addr).map (·.add (1 * 2))) (y142.length - 1) (cq - 1) = vc := ⟨_, rfl⟩
              replace hd9 : Kd.Q k32 32 WW w.heap.size (fun _ => True) vc (y142.drop 1) := by rw [← hvc]; exact hd9
              obtain ⟨i9, hi9, _, hsz9, _⟩ := info_parts info32
              have hcut9 : ∀ W : World, (Instr.slice 23 (.slice (some ⟨gq, 0, none⟩) y142.length cq) (some (.int .i64 1)) none none).run Try.prog W = .ok vc W := fun W => by rw [← hvc]; exact cut_from (P := Try.prog) 23 32 .i64 Try.underlying23 hi9 2 hsz9 (some ⟨gq, 0, none⟩) y142.length cq 1 (by decide) (by omega) W
              obtain ⟨ad9, ead9, hx9, hy9⟩ := at_T32 (Kd.R_reads' hR9).2.2 0 (by decide) (by omega)
              cases ead9
              have hx9' : WW.cell? ⟨gq, 0, none⟩ = some (.int .i64 (rd_T32 y142 0).f0) := by simpa [Addr.add] using hx9
              have hy9' : WW.cell? ⟨gq, 1, none⟩ = some (.int .i64 (rd_T32 y142 0).f1) := by simpa [Addr.add] using hy9
              have hbs9 := HK.out.1
              have HQ9 := Aside0.mk hd9
              obtain ⟨p9, hp9⟩ : ∃ p, rd_T32 y142 0 = p := ⟨_, rfl⟩
              rw [hp9] at hx9' hy9'
              obtain ⟨y9, hy9_⟩ : ∃ y_, y142.drop 1 = y_ := ⟨_, rfl⟩
              have hyl9 : y9.length ≤ 100 := by rw [← hy9_, List.length_drop]; omega
              rw [hy9_] at HQ9
              clear hR9 hQ9 hd9 hvc hx9 hy9
              refine wpIn_wide (n := 0) |>.1 ?_
              have HF := Drawn.wide_plain Try.prog
              refine Drawn.act_name fun A0 hA0 => ?_
              obtain ⟨VS, hVS⟩ : ∃ VS : Value → Value → List (Option Tmp × Value), (fun u u' => [(some 62, .slice (some ⟨gq, 0, none⟩) y142.length cq), (some 63, vc), (some 64, .slice (some ⟨gq, 0, none⟩) y142.length cq), (some 65, .pointer (some ⟨gq, 0, none⟩)), (some 66, .agg #[.int .i64 p9.f0, .int .i64 p9.f1]), (some 67, .slice (some ⟨WW.heap.size, 0, none⟩) 1 1), (some 68, u), (some 2, u')]) = VS := ⟨_, rfl⟩
              have HN : ∀ u u', ((VS u u').filterMap (·.1)).Nodup := fun u u' => by rw [← hVS]; exact (show List.Nodup [(62 : Tmp), (63 : Tmp), (64 : Tmp), (65 : Tmp), (66 : Tmp), (67 : Tmp), (68 : Tmp), (2 : Tmp)] by decide)
              have E7 : ∀ (u u' : Value) (L : List Bool), (Drawn.fill (VS u u') L A0).tmps[7]?.getD undef = .slice (some ⟨gq, 0, none⟩) y142.length cq := fun u u' L => Drawn.fill_old _ _ _ (by rw [← hVS]; exact (show (7 : Tmp) ∉ [(62 : Tmp), (63 : Tmp), (64 : Tmp), (65 : Tmp), (66 : Tmp), (67 : Tmp), (68 : Tmp), (2 : Tmp)] by decide)) (by rw [← hA0]; rfl)
              have E62 : ∀ (u u' : Value) (L : List Bool), L[0]? = some true → (Drawn.fill (VS u u') L A0).tmps[62]?.getD undef = .slice (some ⟨gq, 0, none⟩) y142.length cq := fun u u' L h => Drawn.fill_at (HN u u') (j := 0) (by rw [← hVS]; rfl) h (by rw [← hA0]; simp)
              have E63 : ∀ (u u' : Value) (L : List Bool), L[1]? = some true → (Drawn.fill (VS u u') L A0).tmps[63]?.getD undef = vc := fun u u' L h => Drawn.fill_at (HN u u') (j := 1) (by rw [← hVS]; rfl) h (by rw [← hA0]; simp)
              have E64 : ∀ (u u' : Value) (L : List Bool), L[2]? = some true → (Drawn.fill (VS u u') L A0).tmps[64]?.getD undef = .slice (some ⟨gq, 0, none⟩) y142.length cq := fun u u' L h => Drawn.fill_at (HN u u') (j := 2) (by rw [← hVS]; rfl) h (by rw [← hA0]; simp)
              have E65 : ∀ (u u' : Value) (L : List Bool), L[3]? = some true → (Drawn.fill (VS u u') L A0).tmps[65]?.getD undef = .pointer (some ⟨gq, 0, none⟩) := fun u u' L h => Drawn.fill_at (HN u u') (j := 3) (by rw [← hVS]; rfl) h (by rw [← hA0]; simp)
              have E66 : ∀ (u u' : Value) (L : List Bool), L[4]? = some true → (Drawn.fill (VS u u') L A0).tmps[66]?.getD undef = .agg #[.int .i64 p9.f0, .int .i64 p9.f1] := fun u u' L h => Drawn.fill_at (HN u u') (j := 4) (by rw [← hVS]; rfl) h (by rw [← hA0]; simp)
              have E67 : ∀ (u u' : Value) (L : List Bool), L[5]? = some true → (Drawn.fill (VS u u') L A0).tmps[67]?.getD undef = .slice (some ⟨WW.heap.size, 0, none⟩) 1 1 := fun u u' L h => Drawn.fill_at (HN u u') (j := 5) (by rw [← hVS]; rfl) h (by rw [← hA0]; simp)
              have E68 : ∀ (u u' : Value) (L : List Bool), L[6]? = some true → (Drawn.fill (VS u u') L A0).tmps[68]?.getD undef = u := fun u u' L h => Drawn.fill_at (HN u u') (j := 6) (by rw [← hVS]; rfl) h (by rw [← hA0]; simp)
              obtain ⟨V, hV⟩ : ∃ V : List Bool → List (Option Tmp × Value) → World → Prop, (fun L vs w' => ∃ u u', vs = VS u u' ∧ (L[7]? = some true → u' = u) ∧ (L[6]? = some true → Kd.Q k32 32 w' w.heap.size (fun _ => True) u (y9 ++ [p9]) ∧ Below w.heap.size WW w' ∧ WW.grownBy w' vc.ownBlock) ∧ (L[6]? = some false → L[5]? = some true → w' = WW.drew.alloc (.cells #[.int .i64 p9.f0, .int .i64 p9.f1] 32)) ∧ (L[5]? = some false → w' = WW.drew)) = V := ⟨_, rfl⟩
              have keep : ∀ (L : List Bool) (u u' : Value) (w' : World) (i : Nat), i < 5 → V L (VS u u') w' → V (L.set i true) (VS u u') w' := by
                intro L u u' w' i hi h
                rw [← hV] at h ⊢
                obtain ⟨u1, u2, h1, h2⟩ := h
                refine ⟨u1, u2, h1, ?_⟩
                rw [List.getElem?_set_ne (by omega), List.getElem?_set_ne (by omega), List.getElem?_set_ne (by omega)]
                exact h2
              refine Drawn.drawn_any (by kernel_rfl) (Drawn.early_spec (by kernel_rfl)) (show List.Nodup [(62 : Tmp), (63 : Tmp), (64 : Tmp), (65 : Tmp), (66 : Tmp), (67 : Tmp), (68 : Tmp), (2 : Tmp)] by decide) V (fun L vs w' h => by rw [← hV] at h; obtain ⟨u, u', rfl, _⟩ := h; rw [← hVS]; rfl) (VS undef undef) (by rw [← hV]; exact ⟨_, _, rfl, fun h => absurd h (by decide), fun h => absurd h (by decide), fun _ h => absurd h (by decide), fun _ => rfl⟩) ?_ ?_
              · intro i o vs L w' ho hl hli hpre hcl hVL K hK
                have hVL' := hVL
                rw [← hV] at hVL'
                obtain ⟨u, u', rfl, hu7, hu6, hu56, hu5⟩ := hVL'
                have hii : i = 0 ∨ i = 1 ∨ i = 2 ∨ i = 3 ∨ i = 4 ∨ i = 5 ∨ i = 6 ∨ i = 7 := by have hq := (Array.getElem?_eq_some_iff.1 ho).1; simp at hq; omega
                have dn : ∀ j, j < 8 → L[j]? ≠ some true → L[j]? = some false := fun j hj h => by rw [List.getElem?_eq_getElem (by rw [hl]; exact hj)] at h ⊢; cases hc : L[j]'(by rw [hl]; exact hj) <;> simp_all
                rcases hii with rfl | rfl | rfl | rfl | rfl | rfl | rfl | rfl
                · obtain rfl := Option.some.inj ho
                  have e7 := E7 u u' L
                  refine Drawn.st_val HF rfl (by simp) rfl (v := .slice (some ⟨gq, 0, none⟩) y142.length cq) (w' := w') ?_ (hK _ w' (by have := keep L u u' w' 0 (by decide) hVL; rw [← hVS] at this ⊢; exact this))
                  generalize Drawn.fill (VS u u') L A0 = A at e7 ⊢
                  simp [execOp, go_sem, e7]
                · obtain rfl := Option.some.inj ho
                  have e62 := E62 u u' L (hpre ⟨0, .data⟩ (by simp) rfl)
                  refine Drawn.st_val HF rfl (by simp) rfl (v := vc) (w' := w') ?_ (hK _ w' (by have := keep L u u' w' 1 (by decide) hVL; rw [← hVS] at this ⊢; exact this))
                  generalize Drawn.fill (VS u u') L A0 = A at e62 ⊢
                  have s62 := (Drawn.eval_tmp A 62).trans e62
                  change (execOp A.eval { dst := some 63, op := Op.slice 23 (Operand.tmp 62) (some (Operand.const (Value.int IntKind.i64 1))) none none, type := 23, pos := "l92_draw.go:128", after := #[{ on := 0, ground := Ground.data }], guard := none }).run Try.prog w' = _
                  unfold execOp
                  simp only [Option.map_some, Option.map_none, s62, show A.eval (.const (.int .i64 1)) = .int .i64 1 from rfl, Sem.run_bind, Sem.run_pure]
                  rw [show (Instr.sliceAt 23 (.slice (some ⟨gq, 0, none⟩) y142.length cq) (some (.int .i64 1)) none none).run Try.prog w' = .ok vc w' from hcut9 w']
                  rfl
                · obtain rfl := Option.some.inj ho
                  have e7 := E7 u u' L
                  refine Drawn.st_val HF rfl (by simp) rfl (v := .slice (some ⟨gq, 0, none⟩) y142.length cq) (w' := w') ?_ (hK _ w' (by have := keep L u u' w' 2 (by decide) hVL; rw [← hVS] at this ⊢; exact this))
                  generalize Drawn.fill (VS u u') L A0 = A at e7 ⊢
                  simp [execOp, go_sem, e7]
                · obtain rfl := Option.some.inj ho
                  have e64 := E64 u u' L (hpre ⟨2, .data⟩ (by simp) rfl)
                  refine Drawn.st_val HF rfl (by simp) rfl (v := .pointer (some ⟨gq, 0, none⟩)) (w' := w') ?_ (hK _ w' (by have := keep L u u' w' 3 (by decide) hVL; rw [← hVS] at this ⊢; exact this))
                  have hpos : 0 < y142.length := by omega
                  generalize Drawn.fill (VS u u') L A0 = A at e64 ⊢
                  simp [execOp, go_sem, e64, hpos, Addr.add]
                · obtain rfl := Option.some.inj ho
                  have e65 := E65 u u' L (hpre ⟨3, .data⟩ (by simp) rfl)
                  have n5 := dn 5 (by decide) (fun h5 => by have h4 := hcl 5 _ rfl h5 ⟨4, .data⟩ (by simp) rfl; rw [hli] at h4; cases h4)
                  obtain rfl := hu5 n5
                  have c1 : WW.drew.cell? ⟨gq, 0, none⟩ = _ := hx9'
                  have c2 : WW.drew.cell? ⟨gq, 1, none⟩ = _ := hy9'
                  refine Drawn.st_val HF rfl (by simp) rfl (v := .agg #[.int .i64 p9.f0, .int .i64 p9.f1]) (w' := WW.drew) ?_ (hK _ WW.drew (by have := keep L u u' WW.drew 4 (by decide) hVL; rw [← hVS] at this ⊢; exact this))
                  generalize Drawn.fill (VS u u') L A0 = A at e65 ⊢
                  simp [execOp, go_sem, e65, c1, c2]
                · obtain rfl := Option.some.inj ho
                  have e66 := E66 u u' L (hpre ⟨4, .data⟩ (by simp) rfl)
                  have n6 := dn 6 (by decide) (fun h6 => by have h5 := hcl 6 _ rfl h6 ⟨5, .data⟩ (by simp) rfl; rw [hli] at h5; cases h5)
                  obtain rfl := hu5 hli
                  refine Drawn.st_val HF rfl (by simp) rfl (v := .slice (some ⟨WW.heap.size, 0, none⟩) 1 1) (w' := WW.drew.alloc (.cells #[.int .i64 p9.f0, .int .i64 p9.f1] 32)) ?_ (hK _ _ ?_)
                  · generalize Drawn.fill (VS u u') L A0 = A at e66 ⊢
                    simp [execOp, go_sem, e66]
                  · rw [← hV]
                    refine ⟨u, u', by rw [← hVS]; rfl, fun h => hu7 (by rwa [List.getElem?_set_ne (by decide)] at h), fun h => ?_, fun _ _ => rfl, fun h => ?_⟩
                    · rw [List.getElem?_set_ne (by decide), n6] at h; cases h
                    · rw [List.getElem?_set_self (by rw [hl]; decide)] at h; cases h
                · obtain rfl := Option.some.inj ho
                  have e63 := E63 u u' L (hpre ⟨1, .data⟩ (by simp) rfl)
                  have h5t := hpre ⟨5, .data⟩ (by simp) rfl
                  have e67 := E67 u u' L h5t
                  obtain rfl := hu56 hli h5t
                  obtain ⟨v1, w1, hr9, q1, q2, q3, _⟩ := Kd.Q_run (P := Try.prog) (W := WW.drew) k32 (w0 := WW) w.heap.size 23 23 32 (.agg #[(.int .i64 0), (.int .i64 0)]) 16 Try.underlying23 info32 rfl (by decide) (by omega) vc y9 p9 _ (fun _ => True) (fun _ => False) (k32_mkM _ _ _ p9) (fun _ h => h.elim) (fun _ _ => trivial) HQ9.out (below_drew1 (Below.refl _ _)) hbs9 (by omega)
                  refine Drawn.st_val HF rfl (by simp) rfl (v := v1) (w' := w1) ?_ (hK _ _ ?_)
                  · generalize Drawn.fill (VS u u') L A0 = A at e63 e67 ⊢
                    have s63 := (Drawn.eval_tmp A 63).trans e63
                    have s67 := (Drawn.eval_tmp A 67).trans e67
                    change (execOp A.eval { dst := some 68, op := Op.call { callee := Callee.builtin Builtin.append, args := #[Operand.tmp 63, Operand.tmp 67], argTypes := #[23, 23] }, type := 23, pos := "l92_draw.go:128", after := #[{ on := 1, ground := Ground.data }, { on := 5, ground := Ground.data }], guard := none }).run Try.prog _ = _
                    unfold execOp
                    simp only [resolve, invoke, builtin, Sem.run_bind, Sem.run_pure, Result.andThen_ok, List.map_toArray, List.map_cons, List.map_nil, s63, s67]
                    rw [show WW.drew.heap.size = WW.heap.size from rfl] at hr9
                    rw [show (#[.int .i64 p9.f0, .int .i64 p9.f1] : Array Value) = [.int .i64 p9.f0, .int .i64 p9.f1].toArray from rfl, hr9]
                    rfl
                  · rw [← hV]
                    have n7 := dn 7 (by decide) (fun h7 => by have h6 := hcl 7 _ rfl h7 ⟨6, .data⟩ (by simp) rfl; rw [hli] at h6; cases h6)
                    refine ⟨v1, u', by rw [← hVS]; rfl, fun h => ?_, fun _ => ⟨q1, q2, World.grownBy.trans (grown_of_below (below_drew1 (Below.refl WW.heap.size WW)) _) q3⟩, fun h => ?_, fun h => ?_⟩
                    · rw [List.getElem?_set_ne (by decide), n7] at h; cases h
                    · rw [List.getElem?_set_self (by rw [hl]; decide)] at h; cases h
                    · rw [List.getElem?_set_ne (by decide), h5t] at h; cases h
                · obtain rfl := Option.some.inj ho
                  have h6t := hpre ⟨6, .data⟩ (by simp) rfl
                  have e68 := E68 u u' L h6t
                  refine Drawn.st_val HF rfl (by simp) rfl (v := u) (w' := w') ?_ (hK _ w' ?_)
                  · generalize Drawn.fill (VS u u') L A0 = A at e68 ⊢
                    simp [execOp, go_sem, e68]
                  · rw [← hV]
                    refine ⟨u, u, by rw [← hVS]; rfl, fun _ => rfl, fun _ => hu6 h6t, fun h => ?_, fun h => hu5 (by rwa [List.getElem?_set_ne (by decide)] at h)⟩
                    rw [List.getElem?_set_ne (by decide), h6t] at h; cases h
              · intro vs w' hVL
                rw [← hV] at hVL
                obtain ⟨u, u', rfl, hu7, hu6, _, _⟩ := hVL
                obtain rfl := hu7 rfl
                obtain ⟨q1, q2, q3⟩ := hu6 rfl
                rw [← hVS, ← hA0]
                simp only [List.size_toArray, List.length_cons, List.length_nil, Nat.reduceAdd, List.replicate, Drawn.fill, if_true, Act.put, List.setIfInBounds_toArray, List.set_cons_succ, List.set_cons_zero]
                have HIf := Aside0.mk (IsS81.grown HI0.out q3 (IsS81.own_neQ HI0.out HQ9.out (by decide)))
                have HBf := Aside0.mk (below_weaken HB.out HL.out q2)
                have HKf := Aside0.mk (KeepBut.trans HK.out (KeepBut.of_grown q3 g) (Kd.Q_base2 HQ9.out))
                have HQf := Aside0.mk q1
                clear q1 q2 q3 hu6 HN keep E7 E62 E63 E64 E65 E66 E67 E68 hVS hV hA0
                go_wp2
                go_ret
                exact ⟨_, rfl, by rw [← HR1.out, hy9_, hp9]; exact HQf.out, HIf.out, HBf.out, HKf.out⟩
            · rw [if_neg c20] at H
              have c20b0 : (t145 == 0) = false := beq_eq_false_iff_ne.mpr c20
              have c20b1 : (t145 != 0) = true := bne_iff_ne.mpr c20
              simp only [Option.some.injEq, Prod.mk.injEq] at H
              obtain ⟨rfl, rfl⟩ := H
              go_wp2_with (first | ((with_reducible refine gate_dst (N := 55) rfl ?_); refine Kd.R_lit k32 _ 32 ?hg (N := 55) ?hd (xs := ([(⟨(wrap64 (t122 - 2)), (wrap64 (t124 - 2))⟩ : S32), (⟨wrap64 ((wrap64 (t122 - 2)) + 1), (wrap64 (t124 - 2))⟩ : S32)] : List (S32))) (inner := [.int .i64 (wrap64 (t122 - 2)), .int .i64 (wrap64 (t124 - 2)), .int .i64 (wrap64 ((wrap64 (t122 - 2)) + 1)), .int .i64 (wrap64 (t124 - 2))]) (ok := fun _ => True) (okp := fun _ => True) ?hr ?hp (fun _ hk => hk) trivial (Below.refl _ _) (Nat.le_refl _) (by simp) ?_; (case hd => rfl); (case hg => rfl); (case hr => first | (go_simp; done) | (go_simp; rfl)); (case hp => exact (Reps.c2 (show Kd.M k32 _ _ _ (⟨(wrap64 (t122 - 2)), (wrap64 (t124 - 2))⟩ : S32) [.int .i64 (wrap64 (t122 - 2)), .int .i64 (wrap64 (t124 - 2))] from (k32_mkM _ _ _ (⟨(wrap64 (t122 - 2)), (wrap64 (t124 - 2))⟩ : S32) )) (Reps.c2 (show Kd.M k32 _ _ _ (⟨wrap64 ((wrap64 (t122 - 2)) + 1), (wrap64 (t124 - 2))⟩ : S32) [.int .i64 (wrap64 ((wrap64 (t122 - 2)) + 1)), .int .i64 (wrap64 (t124 - 2))] from (k32_mkM _ _ _ (⟨wrap64 ((wrap64 (t122 - 2)) + 1), (wrap64 (t124 - 2))⟩ : S32) )) (Reps.none _ _)))); intro v136 w27 ho28 hb hg_ hnew_; clear hg_ hnew_; (first | rw [← Ny135.out] at ho28 | (simp only [Int.reduceToNat] at ho28; rw [← Ny135.out] at ho28)); have n0_ := Aside0.mk (Kd.R_elder' (by (with_reducible repeat (first | apply Kd.R_alloc | apply Kd.R_drewN | apply Kd.R_drew)); exact HO_7.out) (Kd.R_base ho28) hb); have n1_ := Aside0.mk (Kd.R_lower (Kd.R_new' ho28 (Kd.R_lt (by (with_reducible repeat (first | apply Kd.R_alloc | apply Kd.R_drewN | apply Kd.R_drew)); exact HO_7.out))) (keep_size (w := w) (g := g) (row := none) (by repeat (first | (with_reducible first | exact HK.out | apply KeepBut.set_ | apply keep_drewN | apply keep_drew | apply keep_alloc) | exact HK.out)))); have n2_ := Aside0.mk (IsS81.below (by repeat (first | (with_reducible first | exact HI0.out | apply IsS81.alloc | apply IsS81.drewN | apply IsS81.drew | apply IsS81.set_1) | exact HI0.out)) hb); have n3_ := Aside0.mk (KeepBut.trans (by repeat (first | (with_reducible first | exact HK.out | apply KeepBut.set_ | apply keep_drewN | apply keep_drew | apply keep_alloc) | exact HK.out)) (KeepBut.of_below hb g none) (.inl rfl)); have n4_ := Aside0.mk (below_step (by repeat (first | (with_reducible first | exact HB.out | apply below_alloc | apply pw_below_drewN | apply below_drew1 | refine below_set ?_ (IsS81.ge HI0.out)) | exact HB.out)) hb); clear HO_7; clear HI0; clear HK; clear HB; have HO_7 := n0_; have HO137 := n1_; have HI0 := n2_; have HK := n3_; have HB := n4_; clear n0_ n1_ n2_ n3_ n4_; clear hb ho28; obtain ⟨Ao30, co30, eo30⟩ := Kd.R_slice HO_7.out; subst eo30; have q29 : (1 : Int) ≤ ((y130.length : Int) : Int) := of_decide_eq_true (by first | (with_reducible assumption) | assumption); obtain ⟨i029, hi029, _, hsz29, _⟩ := info_parts info32; have hroom29 : y130.length ≤ co30 := (Kd.R_reads' HO_7.out).2.1; have hC29 : Kd.C k32 _ Ao30 y130.length y130 := (Kd.R_reads' HO_7.out).2.2; have hcut29 := cut_from (P := Try.prog) 23 32 .i64 Try.underlying23 hi029 2 hsz29 Ao30 y130.length co30 1 (by omega) q29; have hr29 := Kd.C_drop (m := (1 : Int).toNat) (c := co30) hC29 (by omega) hroom29; obtain ⟨A29, hA29⟩ : ∃ Az_, Az_ = (if co30 = (1 : Int).toNat then Ao30 else (Ao30 : Option Addr).map (·.add ((1 : Int).toNat * 2))) := ⟨_, rfl⟩; obtain ⟨c29, hc29⟩ : ∃ cz_, cz_ = co30 - (1 : Int).toNat := ⟨_, rfl⟩; have hy29 : y138.length = y130.length - (1 : Int).toNat := (by rw [Ny138.out, List.length_drop] <;> omega); rw [show (y130).drop (1 : Int).toNat = y138 from Ny138.out.symm] at hr29; replace hr29 : Kd.C k32 _ A29 y138.length y138 := (by rw [hA29]; exact hr29); rw [← hy29, ← hA29, ← hc29] at hcut29; have HR141 := Aside0.mk hr29; have HC141 := Aside0.mk (show y138.length ≤ c29 from by rw [hy29, hc29]; exact Nat.sub_le_sub_right hroom29 _); clear hr29 hC29 hroom29 hi029 hsz29 hc29; have KY29 := Aside0.mk hy29; have KA29 := Aside0.mk hA29; clear hy29 hA29; have KL29 := Aside0.mk (show 1 ≤ y130.length from by omega); replace q29 := eq_true q29) | ((with_reducible refine gate_builtin (b := .append) (xs := #[.tmp 55, .tmp 57]) rfl ?_); at_builtin; refine Kd.R_append_rows k32 w.heap.size rfl (.tmp 55) (.tmp 57) 23 32 (.agg #[(.int .i64 0), (.int .i64 0)]) 16 rfl Try.underlying23 info32 rfl (by decide) (by omega) v136 y135 y138 _ _ _ (fun k_ => some k_ ≠ (.slice Ao30 y130.length co30 : Value).ownBlock) (fun _ => False) rfl rfl ?aO ?aR (fun _ _ h => h) (fun _ h => h.elim) ?aF (Below.refl _ _) ?aS ?aL ?_; (case aR => repeat (first | exact (by repeat (first | (with_reducible exact HR141.out) | (with_reducible refine Kd.C_alloc ?_ _) | (with_reducible refine Kd.C_drewN ?_ _) | (with_reducible refine Kd.C_drew ?_) | exact HR141.out)) | (with_reducible refine Kd.C_alloc ?_ _) | (with_reducible refine Kd.C_drewN ?_ _) | (with_reducible refine Kd.C_drew ?_))); (case aF => exact (fun k_ hk => Kd.fresh' (Kd.R_lt (by (with_reducible repeat (first | apply Kd.R_alloc | apply Kd.R_drewN | apply Kd.R_drew)); exact HO_7.out)) k_ hk)); (case aO => exact (by (with_reducible repeat (first | apply Kd.R_alloc | apply Kd.R_drewN | apply Kd.R_drew)); exact Kd.R_mono HO137.out (fun _ hk => hk.2))); (case aS => exact (keep_size (w := w) (g := g) (row := none) (by repeat (first | (with_reducible first | exact HK.out | apply KeepBut.set_ | apply keep_drewN | apply keep_drew | apply keep_alloc) | exact HK.out)))); (case aL => have := LMc18.out; omega); intro v143 w31 ho hb hg hat; rw [← Ny142.out] at ho; have n0_ := Aside0.mk (Kd.R_after (ok := (fun _ => True)) (by (with_reducible repeat (first | apply Kd.R_alloc | apply Kd.R_drewN | apply Kd.R_drew)); exact HO_7.out) hg hat); have n1_ := Aside0.mk (IsS81.grown (by repeat (first | (with_reducible first | exact HI0.out | apply IsS81.alloc | apply IsS81.drewN | apply IsS81.drew | apply IsS81.set_1) | exact HI0.out)) hg (IsS81.own_ne HI0.out HO137.out (by decide))); have n2_ := Aside0.mk (below_weaken (by repeat (first | (with_reducible first | exact HB.out | apply below_alloc | apply pw_below_drewN | apply below_drew1 | refine below_set ?_ (IsS81.ge HI0.out)) | exact HB.out)) HL.out hb); have n3_ := Aside0.mk (KeepBut.trans (by repeat (first | (with_reducible first | exact HK.out | apply KeepBut.set_ | apply keep_drewN | apply keep_drew | apply keep_alloc) | exact HK.out)) (KeepBut.of_grown hg g) (Kd.R_base2 HO137.out)); have n4_ := Aside0.mk ((show Kd.C k32 w31 A29 y138.length y138 from by rw [Ny138.out, KA29.out]; exact Kd.C_drop (m := 1) (c := co30) ((Kd.R_reads' (Kd.R_after (ok := (fun _ => True)) (by (with_reducible repeat (first | apply Kd.R_alloc | apply Kd.R_drewN | apply Kd.R_drew)); exact HO_7.out) hg hat)).2.2) KL29.out ((Kd.R_reads' (Kd.R_after (ok := (fun _ => True)) (by (with_reducible repeat (first | apply Kd.R_alloc | apply Kd.R_drewN | apply Kd.R_drew)); exact HO_7.out) hg hat)).2.1))); have n5_ := Aside0.mk (ho); clear HO_7; clear HI0; clear HB; clear HK; clear HR141; clear HO137; have HO_7 := n0_; have HI0 := n1_; have HB := n2_; have HK := n3_; have HR141 := n4_; have HO144 := n5_; clear n0_ n1_ n2_ n3_ n4_ n5_; clear ho hb hg hat) | ((with_reducible refine gate_callee (f := 48) rfl ?_); refine goesL_ (some 60) rfl rfl Try.func48 (by kernel_rfl) rfl #[.pointer (some ⟨g, 0, none⟩), .int .i64 3] rfl (by (try simp only [List.map_toArray, List.map_cons, List.map_nil]); first | done | rfl | (simp only [List.length_drop, List.length_take]; rfl)) ?_; (with_reducible refine (spec_l6Rd_pick.calls kj5 g s0_0 x1001_5 3 t145 t146 w0 _ ?side1 ?side2 A19.out).mono ?_); (case side1 => repeat (first | (with_reducible first | exact HI0.out | apply IsS81.alloc | apply IsS81.drewN | apply IsS81.drew | apply IsS81.set_1) | exact HI0.out)); (case side2 => repeat (first | (with_reducible first | exact HB.out | apply below_alloc | apply pw_below_drewN | apply below_drew1 | refine below_set ?_ (IsS81.ge HI0.out)) | exact HB.out)); rintro e w32 ⟨rfl, hi, hb, hk⟩; refine ⟨_, rfl, ?_⟩; have n0_ := Aside0.mk (Kd.R_mono (Kd.R_keep (IsS81.apart (show IsS81 w0 _ g s0_0 x1001_5 from by repeat (first | (with_reducible first | exact HI0.out | apply IsS81.alloc | apply IsS81.drewN | apply IsS81.drew | apply IsS81.set_1) | exact HI0.out)) (by (with_reducible repeat (first | apply Kd.R_alloc | apply Kd.R_drewN | apply Kd.R_drew)); exact HO_7.out) (by decide)) hk (fun _ h => h.2)) (fun _ h => h.1)); have n1_ := Aside0.mk (Kd.R_mono (Kd.R_keep (IsS81.apart (show IsS81 w0 _ g s0_0 x1001_5 from by repeat (first | (with_reducible first | exact HI0.out | apply IsS81.alloc | apply IsS81.drewN | apply IsS81.drew | apply IsS81.set_1) | exact HI0.out)) (by (with_reducible repeat (first | apply Kd.R_alloc | apply Kd.R_drewN | apply Kd.R_drew)); exact HO144.out) (by decide)) hk (fun _ h => h.2)) (fun _ h => h.1)); have n2_ := Aside0.mk (KeepBut.trans (by repeat (first | (with_reducible first | exact HK.out | apply KeepBut.set_ | apply keep_drewN | apply keep_drew | apply keep_alloc) | exact HK.out)) hk (.inl rfl)); have n3_ := Aside0.mk (hb); have n4_ := Aside0.mk (hi); clear HO_7; clear HO144; clear HK; clear HB; clear HI0; have HO_7 := n0_; have HO144 := n1_; have HK := n2_; have HB := n3_; have HI0 := n4_; clear n0_ n1_ n2_ n3_ n4_; (try clear hb); (try clear hb2); (try clear hk); (try clear hi)))
              go_ret
              exact ⟨_, by first | rfl | (simp [errW_none, errW_some] <;> rfl) | (simp [*, errW_none, errW_some] <;> rfl), Kd.Q_of_R (by (with_reducible repeat (first | apply Kd.R_alloc | apply Kd.R_drewN | apply Kd.R_drew)); exact Kd.R_mono HO144.out (fun _ hk => trivial)), by repeat (first | (with_reducible first | exact HI0.out | apply IsS81.alloc | apply IsS81.drewN | apply IsS81.drew | apply IsS81.set_1) | exact HI0.out), by repeat (first | (with_reducible first | exact HB.out | apply below_alloc | apply pw_below_drewN | apply below_drew1 | refine below_set ?_ (IsS81.ge HI0.out)) | exact HB.out), by repeat (first | (with_reducible first | exact HK.out | apply KeepBut.set_ | apply keep_drewN | apply keep_drew | apply keep_alloc) | exact HK.out)⟩
          · rw [if_neg c18] at H
            exact absurd H (by simp)
        · rw [if_neg c17] at H
          exact absurd H (by simp)
      · replace c16 := Bool.eq_false_iff.mpr c16
        subst c16
        have H1 : ((spec_l6Rd_pick.f kj5 s0_0 x1001_5 3).bind fun bt147 => (if bt147.1 = 0 then (if 1 ≤ y130.length ∧ y130.length ≤ 100 then (some (y130.drop 1 ++ [rd_T32 y130 0], bt147.2)) else none) else (some (y130, bt147.2)))) = some (r1, r2) := by rw [if_neg (show ¬ (false = true) by decide)] at H; exact H
        clear H
        have H := H1
        clear H1
        replace H := Option.bind_eq_some_iff.mp H
        obtain ⟨⟨t147, t148⟩, A330, H⟩ := H
        replace H : (if t147 = 0 then (if 1 ≤ y130.length ∧ y130.length ≤ 100 then (some (y130.drop 1 ++ [rd_T32 y130 0], t148)) else none) else (some (y130, t148))) = some (r1, r2) := H
        have A33 := Aside0.mk A330
        clear A330
        by_cases c34 : t147 = 0
        · rw [if_pos c34] at H
          have c34b0 : (t147 == 0) = true := beq_iff_eq.mpr c34
          have c34b1 : (t147 != 0) = false := bne_eq_false_iff_eq.mpr c34
          clear c34
          by_cases hl9 : 1 ≤ y130.length ∧ y130.length ≤ 100
          case neg => rw [if_neg hl9] at H; exact absurd H (by simp)
          rw [if_pos hl9] at H
          simp only [Option.some.injEq, Prod.mk.injEq] at H
          obtain ⟨hr1, rfl⟩ := H; have HR1 := Aside0.mk hr1; clear hr1
          go_wp2_with (first | ((with_reducible refine gate_callee (f := 48) rfl ?_); refine goesL_ (some 60) rfl rfl Try.func48 (by kernel_rfl) rfl #[.pointer (some ⟨g, 0, none⟩), .int .i64 3] rfl (by (try simp only [List.map_toArray, List.map_cons, List.map_nil]); first | done | rfl | (simp only [List.length_drop, List.length_take]; rfl)) ?_; (with_reducible refine (spec_l6Rd_pick.calls kj5 g s0_0 x1001_5 3 t147 t148 w0 _ ?side1 ?side2 A33.out).mono ?_); (case side1 => repeat (first | (with_reducible first | exact HI0.out | apply IsS81.alloc | apply IsS81.drewN | apply IsS81.drew | apply IsS81.set_1) | exact HI0.out)); (case side2 => repeat (first | (with_reducible first | exact HB.out | apply below_alloc | apply pw_below_drewN | apply below_drew1 | refine below_set ?_ (IsS81.ge HI0.out)) | exact HB.out)); rintro e w35 ⟨rfl, hi, hb, hk⟩; refine ⟨_, rfl, ?_⟩; have n0_ := Aside0.mk (Kd.R_mono (Kd.R_keep (IsS81.apart (show IsS81 w0 _ g s0_0 x1001_5 from by repeat (first | (with_reducible first | exact HI0.out | apply IsS81.alloc | apply IsS81.drewN | apply IsS81.drew | apply IsS81.set_1) | exact HI0.out)) (by (with_reducible repeat (first | apply Kd.R_alloc | apply Kd.R_drewN | apply Kd.R_drew)); exact HO_7.out) (by decide)) hk (fun _ h => h.2)) (fun _ h => h.1)); have n1_ := Aside0.mk (KeepBut.trans (by repeat (first | (with_reducible first | exact HK.out | apply KeepBut.set_ | apply keep_drewN | apply keep_drew | apply keep_alloc) | exact HK.out)) hk (.inl rfl)); have n2_ := Aside0.mk (hb); have n3_ := Aside0.mk (hi); clear HO_7; clear HK; clear HB; clear HI0; have HO_7 := n0_; have HK := n1_; have HB := n2_; have HI0 := n3_; clear n0_ n1_ n2_ n3_; (try clear hb); (try clear hb2); (try clear hk); (try clear hi)))
          obtain ⟨WW, hWW, hR9⟩ : ∃ WW : World, WW = _ ∧ Kd.R k32 32 WW w.heap.size (fun _ => True) _ y130 := ⟨_, rfl, Kd.R_mono (ok' := fun _ => True) HO_7.out (fun _ _ => trivial)⟩
          subst hWW
          obtain ⟨gq, cq, eq_, _, _, _⟩ := Kd.R_form hR9 (by omega)
          (first | subst eq_ | (injection eq_ with ea_ en_ ec_; (first | subst ea_ | (injection ea_ with ea_; subst ea_)); subst ec_; clear en_))
          have hQ9 := Kd.Q_of_R hR9
          have hc9 := (Kd.R_reads' hR9).2.1
          have hd9 := Kd.Q_drop (k := 1) hQ9 (by omega)
          obtain ⟨vc, hvc⟩ : ∃ vc, Value.slice (if cq = 1 then (some ⟨gq, 0, none⟩ : Option Addr) else (some ⟨gq, 0, none⟩ : Option Addr).map (·.add (1 * 2))) (y130.length - 1) (cq - 1) = vc := ⟨_, rfl⟩
          replace hd9 : Kd.Q k32 32 WW w.heap.size (fun _ => True) vc (y130.drop 1) := by rw [← hvc]; exact hd9
          obtain ⟨i9, hi9, _, hsz9, _⟩ := info_parts info32
          have hcut9 : ∀ W : World, (Instr.slice 23 (.slice (some ⟨gq, 0, none⟩) y130.length cq) (some (.int .i64 1)) none none).run Try.prog W = .ok vc W := fun W => by rw [← hvc]; exact cut_from (P := Try.prog) 23 32 .i64 Try.underlying23 hi9 2 hsz9 (some ⟨gq, 0, none⟩) y130.length cq 1 (by decide) (by omega) W
          obtain ⟨ad9, ead9, hx9, hy9⟩ := at_T32 (Kd.R_reads' hR9).2.2 0 (by decide) (by omega)
          cases ead9
          have hx9' : WW.cell? ⟨gq, 0, none⟩ = some (.int .i64 (rd_T32 y130 0).f0) := by simpa [Addr.add] using hx9
          have hy9' : WW.cell? ⟨gq, 1, none⟩ = some (.int .i64 (rd_T32 y130 0).f1) := by simpa [Addr.add] using hy9
          have hbs9 := HK.out.1
          have HQ9 := Aside0.mk hd9
          obtain ⟨p9, hp9⟩ : ∃ p, rd_T32 y130 0 = p := ⟨_, rfl⟩
          rw [hp9] at hx9' hy9'
          obtain ⟨y9, hy9_⟩ : ∃ y_, y130.drop 1 = y_ := ⟨_, rfl⟩
          have hyl9 : y9.length ≤ 100 := by rw [← hy9_, List.length_drop]; omega
          rw [hy9_] at HQ9
          clear hR9 hQ9 hd9 hvc hx9 hy9
          refine wpIn_wide (n := 0) |>.1 ?_
          have HF := Drawn.wide_plain Try.prog
          refine Drawn.act_name fun A0 hA0 => ?_
          obtain ⟨VS, hVS⟩ : ∃ VS : Value → Value → List (Option Tmp × Value), (fun u u' => [(some 62, .slice (some ⟨gq, 0, none⟩) y130.length cq), (some 63, vc), (some 64, .slice (some ⟨gq, 0, none⟩) y130.length cq), (some 65, .pointer (some ⟨gq, 0, none⟩)), (some 66, .agg #[.int .i64 p9.f0, .int .i64 p9.f1]), (some 67, .slice (some ⟨WW.heap.size, 0, none⟩) 1 1), (some 68, u), (some 2, u')]) = VS := ⟨_, rfl⟩
          have HN : ∀ u u', ((VS u u').filterMap (·.1)).Nodup := fun u u' => by rw [← hVS]; exact (show List.Nodup [(62 : Tmp), (63 : Tmp), (64 : Tmp), (65 : Tmp), (66 : Tmp), (67 : Tmp), (68 : Tmp), (2 : Tmp)] by decide)
          have E7 : ∀ (u u' : Value) (L : List Bool), (Drawn.fill (VS u u') L A0).tmps[7]?.getD undef = .slice (some ⟨gq, 0, none⟩) y130.length cq := fun u u' L => Drawn.fill_old _ _ _ (by rw [← hVS]; exact (show (7 : Tmp) ∉ [(62 : Tmp), (63 : Tmp), (64 : Tmp), (65 : Tmp), (66 : Tmp), (67 : Tmp), (68 : Tmp), (2 : Tmp)] by decide)) (by rw [← hA0]; rfl)
          have E62 : ∀ (u u' : Value) (L : List Bool), L[0]? = some true → (Drawn.fill (VS u u') L A0).tmps[62]?.getD undef = .slice (some ⟨gq, 0, none⟩) y130.length cq := fun u u' L h => Drawn.fill_at (HN u u') (j := 0) (by rw [← hVS]; rfl) h (by rw [← hA0]; simp)
          have E63 : ∀ (u u' : Value) (L : List Bool), L[1]? = some true → (Drawn.fill (VS u u') L A0).tmps[63]?.getD undef = vc := fun u u' L h => Drawn.fill_at (HN u u') (j := 1) (by rw [← hVS]; rfl) h (by rw [← hA0]; simp)
          have E64 : ∀ (u u' : Value) (L : List Bool), L[2]? = some true → (Drawn.fill (VS u u') L A0).tmps[64]?.getD undef = .slice (some ⟨gq, 0, none⟩) y130.length cq := fun u u' L h => Drawn.fill_at (HN u u') (j := 2) (by rw [← hVS]; rfl) h (by rw [← hA0]; simp)
          have E65 : ∀ (u u' : Value) (L : List Bool), L[3]? = some true → (Drawn.fill (VS u u') L A0).tmps[65]?.getD undef = .pointer (some ⟨gq, 0, none⟩) := fun u u' L h => Drawn.fill_at (HN u u') (j := 3) (by rw [← hVS]; rfl) h (by rw [← hA0]; simp)
          have E66 : ∀ (u u' : Value) (L : List Bool), L[4]? = some true → (Drawn.fill (VS u u') L A0).tmps[66]?.getD undef = .agg #[.int .i64 p9.f0, .int .i64 p9.f1] := fun u u' L h => Drawn.fill_at (HN u u') (j := 4) (by rw [← hVS]; rfl) h (by rw [← hA0]; simp)
          have E67 : ∀ (u u' : Value) (L : List Bool), L[5]? = some true → (Drawn.fill (VS u u') L A0).tmps[67]?.getD undef = .slice (some ⟨WW.heap.size, 0, none⟩) 1 1 := fun u u' L h => Drawn.fill_at (HN u u') (j := 5) (by rw [← hVS]; rfl) h (by rw [← hA0]; simp)
          have E68 : ∀ (u u' : Value) (L : List Bool), L[6]? = some true → (Drawn.fill (VS u u') L A0).tmps[68]?.getD undef = u := fun u u' L h => Drawn.fill_at (HN u u') (j := 6) (by rw [← hVS]; rfl) h (by rw [← hA0]; simp)
          obtain ⟨V, hV⟩ : ∃ V : List Bool → List (Option Tmp × Value) → World → Prop, (fun L vs w' => ∃ u u', vs = VS u u' ∧ (L[7]? = some true → u' = u) ∧ (L[6]? = some true → Kd.Q k32 32 w' w.heap.size (fun _ => True) u (y9 ++ [p9]) ∧ Below w.heap.size WW w' ∧ WW.grownBy w' vc.ownBlock) ∧ (L[6]? = some false → L[5]? = some true → w' = WW.drew.alloc (.cells #[.int .i64 p9.f0, .int .i64 p9.f1] 32)) ∧ (L[5]? = some false → w' = WW.drew)) = V := ⟨_, rfl⟩
          have keep : ∀ (L : List Bool) (u u' : Value) (w' : World) (i : Nat), i < 5 → V L (VS u u') w' → V (L.set i true) (VS u u') w' := by
            intro L u u' w' i hi h
            rw [← hV] at h ⊢
            obtain ⟨u1, u2, h1, h2⟩ := h
            refine ⟨u1, u2, h1, ?_⟩
            rw [List.getElem?_set_ne (by omega), List.getElem?_set_ne (by omega), List.getElem?_set_ne (by omega)]
            exact h2
          refine Drawn.drawn_any (by kernel_rfl) (Drawn.early_spec (by kernel_rfl)) (show List.Nodup [(62 : Tmp), (63 : Tmp), (64 : Tmp), (65 : Tmp), (66 : Tmp), (67 : Tmp), (68 : Tmp), (2 : Tmp)] by decide) V (fun L vs w' h => by rw [← hV] at h; obtain ⟨u, u', rfl, _⟩ := h; rw [← hVS]; rfl) (VS undef undef) (by rw [← hV]; exact ⟨_, _, rfl, fun h => absurd h (by decide), fun h => absurd h (by decide), fun _ h => absurd h (by decide), fun _ => rfl⟩) ?_ ?_
          · intro i o vs L w' ho hl hli hpre hcl hVL K hK
            have hVL' := hVL
            rw [← hV] at hVL'
            obtain ⟨u, u', rfl, hu7, hu6, hu56, hu5⟩ := hVL'
            have hii : i = 0 ∨ i = 1 ∨ i = 2 ∨ i = 3 ∨ i = 4 ∨ i = 5 ∨ i = 6 ∨ i = 7 := by have hq := (Array.getElem?_eq_some_iff.1 ho).1; simp at hq; omega
            have dn : ∀ j, j < 8 → L[j]? ≠ some true → L[j]? = some false := fun j hj h => by rw [List.getElem?_eq_getElem (by rw [hl]; exact hj)] at h ⊢; cases hc : L[j]'(by rw [hl]; exact hj) <;> simp_all
            rcases hii with rfl | rfl | rfl | rfl | rfl | rfl | rfl | rfl
            · obtain rfl := Option.some.inj ho
              have e7 := E7 u u' L
              refine Drawn.st_val HF rfl (by simp) rfl (v := .slice (some ⟨gq, 0, none⟩) y130.length cq) (w' := w') ?_ (hK _ w' (by have := keep L u u' w' 0 (by decide) hVL; rw [← hVS] at this ⊢; exact this))
              generalize Drawn.fill (VS u u') L A0 = A at e7 ⊢
              simp [execOp, go_sem, e7]
            · obtain rfl := Option.some.inj ho
              have e62 := E62 u u' L (hpre ⟨0, .data⟩ (by simp) rfl)
              refine Drawn.st_val HF rfl (by simp) rfl (v := vc) (w' := w') ?_ (hK _ w' (by have := keep L u u' w' 1 (by decide) hVL; rw [← hVS] at this ⊢; exact this))
              generalize Drawn.fill (VS u u') L A0 = A at e62 ⊢
              have s62 := (Drawn.eval_tmp A 62).trans e62
              change (execOp A.eval { dst := some 63, op := Op.slice 23 (Operand.tmp 62) (some (Operand.const (Value.int IntKind.i64 1))) none none, type := 23, pos := "l92_draw.go:128", after := #[{ on := 0, ground := Ground.data }], guard := none }).run Try.prog w' = _
              unfold execOp
              simp only [Option.map_some, Option.map_none, s62, show A.eval (.const (.int .i64 1)) = .int .i64 1 from rfl, Sem.run_bind, Sem.run_pure]
              rw [show (Instr.sliceAt 23 (.slice (some ⟨gq, 0, none⟩) y130.length cq) (some (.int .i64 1)) none none).run Try.prog w' = .ok vc w' from hcut9 w']
              rfl
            · obtain rfl := Option.some.inj ho
              have e7 := E7 u u' L
              refine Drawn.st_val HF rfl (by simp) rfl (v := .slice (some ⟨gq, 0, none⟩) y130.length cq) (w' := w') ?_ (hK _ w' (by have := keep L u u' w' 2 (by decide) hVL; rw [← hVS] at this ⊢; exact this))
              generalize Drawn.fill (VS u u') L A0 = A at e7 ⊢
              simp [execOp, go_sem, e7]
            · obtain rfl := Option.some.inj ho
              have e64 := E64 u u' L (hpre ⟨2, .data⟩ (by simp) rfl)
              refine Drawn.st_val HF rfl (by simp) rfl (v := .pointer (some ⟨gq, 0, none⟩)) (w' := w') ?_ (hK _ w' (by have := keep L u u' w' 3 (by decide) hVL; rw [← hVS] at this ⊢; exact this))
              have hpos : 0 < y130.length := by omega
              generalize Drawn.fill (VS u u') L A0 = A at e64 ⊢
              simp [execOp, go_sem, e64, hpos, Addr.add]
            · obtain rfl := Option.some.inj ho
              have e65 := E65 u u' L (hpre ⟨3, .data⟩ (by simp) rfl)
              have n5 := dn 5 (by decide) (fun h5 => by have h4 := hcl 5 _ rfl h5 ⟨4, .data⟩ (by simp) rfl; rw [hli] at h4; cases h4)
              obtain rfl := hu5 n5
              have c1 : WW.drew.cell? ⟨gq, 0, none⟩ = _ := hx9'
              have c2 : WW.drew.cell? ⟨gq, 1, none⟩ = _ := hy9'
              refine Drawn.st_val HF rfl (by simp) rfl (v := .agg #[.int .i64 p9.f0, .int .i64 p9.f1]) (w' := WW.drew) ?_ (hK _ WW.drew (by have := keep L u u' WW.drew 4 (by decide) hVL; rw [← hVS] at this ⊢; exact this))
              generalize Drawn.fill (VS u u') L A0 = A at e65 ⊢
              simp [execOp, go_sem, e65, c1, c2]
            · obtain rfl := Option.some.inj ho
              have e66 := E66 u u' L (hpre ⟨4, .data⟩ (by simp) rfl)
              have n6 := dn 6 (by decide) (fun h6 => by have h5 := hcl 6 _ rfl h6 ⟨5, .data⟩ (by simp) rfl; rw [hli] at h5; cases h5)
              obtain rfl := hu5 hli
              refine Drawn.st_val HF rfl (by simp) rfl (v := .slice (some ⟨WW.heap.size, 0, none⟩) 1 1) (w' := WW.drew.alloc (.cells #[.int .i64 p9.f0, .int .i64 p9.f1] 32)) ?_ (hK _ _ ?_)
              · generalize Drawn.fill (VS u u') L A0 = A at e66 ⊢
                simp [execOp, go_sem, e66]
              · rw [← hV]
                refine ⟨u, u', by rw [← hVS]; rfl, fun h => hu7 (by rwa [List.getElem?_set_ne (by decide)] at h), fun h => ?_, fun _ _ => rfl, fun h => ?_⟩
                · rw [List.getElem?_set_ne (by decide), n6] at h; cases h
                · rw [List.getElem?_set_self (by rw [hl]; decide)] at h; cases h
            · obtain rfl := Option.some.inj ho
              have e63 := E63 u u' L (hpre ⟨1, .data⟩ (by simp) rfl)
              have h5t := hpre ⟨5, .data⟩ (by simp) rfl
              have e67 := E67 u u' L h5t
              obtain rfl := hu56 hli h5t
              obtain ⟨v1, w1, hr9, q1, q2, q3, _⟩ := Kd.Q_run (P := Try.prog) (W := WW.drew) k32 (w0 := WW) w.heap.size 23 23 32 (.agg #[(.int .i64 0), (.int .i64 0)]) 16 Try.underlying23 info32 rfl (by decide) (by omega) vc y9 p9 _ (fun _ => True) (fun _ => False) (k32_mkM _ _ _ p9) (fun _ h => h.elim) (fun _ _ => trivial) HQ9.out (below_drew1 (Below.refl _ _)) hbs9 (by omega)
              refine Drawn.st_val HF rfl (by simp) rfl (v := v1) (w' := w1) ?_ (hK _ _ ?_)
              · generalize Drawn.fill (VS u u') L A0 = A at e63 e67 ⊢
                have s63 := (Drawn.eval_tmp A 63).trans e63
                have s67 := (Drawn.eval_tmp A 67).trans e67
                change (execOp A.eval { dst := some 68, op := Op.call { callee := Callee.builtin Builtin.append, args := #[Operand.tmp 63, Operand.tmp 67], argTypes := #[23, 23] }, type := 23, pos := "l92_draw.go:128", after := #[{ on := 1, ground := Ground.data }, { on := 5, ground := Ground.data }], guard := none }).run Try.prog _ = _
                unfold execOp
                simp only [resolve, invoke, builtin, Sem.run_bind, Sem.run_pure, Result.andThen_ok, List.map_toArray, List.map_cons, List.map_nil, s63, s67]
                rw [show WW.drew.heap.size = WW.heap.size from rfl] at hr9
                rw [show (#[.int .i64 p9.f0, .int .i64 p9.f1] : Array Value) = [.int .i64 p9.f0, .int .i64 p9.f1].toArray from rfl, hr9]
                rfl
              · rw [← hV]
                have n7 := dn 7 (by decide) (fun h7 => by have h6 := hcl 7 _ rfl h7 ⟨6, .data⟩ (by simp) rfl; rw [hli] at h6; cases h6)
                refine ⟨v1, u', by rw [← hVS]; rfl, fun h => ?_, fun _ => ⟨q1, q2, World.grownBy.trans (grown_of_below (below_drew1 (Below.refl WW.heap.size WW)) _) q3⟩, fun h => ?_, fun h => ?_⟩
                · rw [List.getElem?_set_ne (by decide), n7] at h; cases h
                · rw [List.getElem?_set_self (by rw [hl]; decide)] at h; cases h
                · rw [List.getElem?_set_ne (by decide), h5t] at h; cases h
            · obtain rfl := Option.some.inj ho
              have h6t := hpre ⟨6, .data⟩ (by simp) rfl
              have e68 := E68 u u' L h6t
              refine Drawn.st_val HF rfl (by simp) rfl (v := u) (w' := w') ?_ (hK _ w' ?_)
              · generalize Drawn.fill (VS u u') L A0 = A at e68 ⊢
                simp [execOp, go_sem, e68]
              · rw [← hV]
                refine ⟨u, u, by rw [← hVS]; rfl, fun _ => rfl, fun _ => hu6 h6t, fun h => ?_, fun h => hu5 (by rwa [List.getElem?_set_ne (by decide)] at h)⟩
                rw [List.getElem?_set_ne (by decide), h6t] at h; cases h
          · intro vs w' hVL
            rw [← hV] at hVL
            obtain ⟨u, u', rfl, hu7, hu6, _, _⟩ := hVL
            obtain rfl := hu7 rfl
            obtain ⟨q1, q2, q3⟩ := hu6 rfl
            rw [← hVS, ← hA0]
            simp only [List.size_toArray, List.length_cons, List.length_nil, Nat.reduceAdd, List.replicate, Drawn.fill, if_true, Act.put, List.setIfInBounds_toArray, List.set_cons_succ, List.set_cons_zero]
            have HIf := Aside0.mk (IsS81.grown HI0.out q3 (IsS81.own_neQ HI0.out HQ9.out (by decide)))
            have HBf := Aside0.mk (below_weaken HB.out HL.out q2)
            have HKf := Aside0.mk (KeepBut.trans HK.out (KeepBut.of_grown q3 g) (Kd.Q_base2 HQ9.out))
            have HQf := Aside0.mk q1
            clear q1 q2 q3 hu6 HN keep E7 E62 E63 E64 E65 E66 E67 E68 hVS hV hA0
            go_wp2
            go_ret
            exact ⟨_, rfl, by rw [← HR1.out, hy9_, hp9]; exact HQf.out, HIf.out, HBf.out, HKf.out⟩
        · rw [if_neg c34] at H
          have c34b0 : (t147 == 0) = false := beq_eq_false_iff_ne.mpr c34
          have c34b1 : (t147 != 0) = true := bne_iff_ne.mpr c34
          simp only [Option.some.injEq, Prod.mk.injEq] at H
          obtain ⟨rfl, rfl⟩ := H
          go_wp2_with (first | ((with_reducible refine gate_callee (f := 48) rfl ?_); refine goesL_ (some 60) rfl rfl Try.func48 (by kernel_rfl) rfl #[.pointer (some ⟨g, 0, none⟩), .int .i64 3] rfl (by (try simp only [List.map_toArray, List.map_cons, List.map_nil]); first | done | rfl | (simp only [List.length_drop, List.length_take]; rfl)) ?_; (with_reducible refine (spec_l6Rd_pick.calls kj5 g s0_0 x1001_5 3 t147 t148 w0 _ ?side1 ?side2 A33.out).mono ?_); (case side1 => repeat (first | (with_reducible first | exact HI0.out | apply IsS81.alloc | apply IsS81.drewN | apply IsS81.drew | apply IsS81.set_1) | exact HI0.out)); (case side2 => repeat (first | (with_reducible first | exact HB.out | apply below_alloc | apply pw_below_drewN | apply below_drew1 | refine below_set ?_ (IsS81.ge HI0.out)) | exact HB.out)); rintro e w36 ⟨rfl, hi, hb, hk⟩; refine ⟨_, rfl, ?_⟩; have n0_ := Aside0.mk (Kd.R_mono (Kd.R_keep (IsS81.apart (show IsS81 w0 _ g s0_0 x1001_5 from by repeat (first | (with_reducible first | exact HI0.out | apply IsS81.alloc | apply IsS81.drewN | apply IsS81.drew | apply IsS81.set_1) | exact HI0.out)) (by (with_reducible repeat (first | apply Kd.R_alloc | apply Kd.R_drewN | apply Kd.R_drew)); exact HO_7.out) (by decide)) hk (fun _ h => h.2)) (fun _ h => h.1)); have n1_ := Aside0.mk (KeepBut.trans (by repeat (first | (with_reducible first | exact HK.out | apply KeepBut.set_ | apply keep_drewN | apply keep_drew | apply keep_alloc) | exact HK.out)) hk (.inl rfl)); have n2_ := Aside0.mk (hb); have n3_ := Aside0.mk (hi); clear HO_7; clear HK; clear HB; clear HI0; have HO_7 := n0_; have HK := n1_; have HB := n2_; have HI0 := n3_; clear n0_ n1_ n2_ n3_; (try clear hb); (try clear hb2); (try clear hk); (try clear hi)))
          go_ret
          exact ⟨_, by first | rfl | (simp [errW_none, errW_some] <;> rfl) | (simp [*, errW_none, errW_some] <;> rfl), Kd.Q_of_R (by (with_reducible repeat (first | apply Kd.R_alloc | apply Kd.R_drewN | apply Kd.R_drew)); exact HO_7.out), by repeat (first | (with_reducible first | exact HI0.out | apply IsS81.alloc | apply IsS81.drewN | apply IsS81.drew | apply IsS81.set_1) | exact HI0.out), by repeat (first | (with_reducible first | exact HB.out | apply below_alloc | apply pw_below_drewN | apply below_drew1 | refine below_set ?_ (IsS81.ge HI0.out)) | exact HB.out), by repeat (first | (with_reducible first | exact HK.out | apply KeepBut.set_ | apply keep_drewN | apply keep_drew | apply keep_alloc) | exact HK.out)⟩

end Go.Proofs.Ytgdhgncdpmalcaa.Q
namespace Go.Proofs.Ytgdhgncdpmalcaa.Q
open Go.RowKit Go.Proofs.YtgdhgncdpmalcaaW.PrintWords Go.Proofs.YtgdhgncdpmalcaaW.PrintLast Go.Proofs.YtgdhgncdpmalcaaW.PrintMore
attribute [local go_sem] max2_int min2_int max_two min_two max_three min_three max_four min_four   -- for this text's walks alone
set_option linter.unusedVariables false
set_option linter.unusedSimpArgs false

/-! ### spec_l92Star: function 72 -/
def spec_l92Star.l0 : Nat → List (S32) → List (S32) → Int → List Int → Int → Option ((List (S32)) × Int)
  | 0, _, _, _, _, _ => none
  | k + 1, x3, x4, x5, x1000, x1001 => if x5 < (x3.length : Int) then (if (Int.tmod x5 4) = 0 then ((spec_l6Rd_pick.f k x1000 x1001 3).bind fun bt128 => (if 0 ≤ x5 then (if x4.length < 8796093022208 then (spec_l92Star.l0 k x3 (x4 ++ [(⟨wrap64 ((wrap64 (1 + bt128.1)) * ((rd_T32 x3 x5).f0)), wrap64 ((wrap64 (1 + bt128.1)) * ((rd_T32 x3 x5).f1))⟩ : S32)]) (wrap64 (x5 + 1)) x1000 bt128.2) else (none)) else (none))) else ((spec_l6Rd_pick.f k x1000 x1001 3).bind fun bt135 => (if bt135.1 = 0 then ((spec_l6Rd_pick.f k x1000 bt135.2 3).bind fun bt137 => (if 0 ≤ x5 then (if x4.length < 8796093022208 then (spec_l92Star.l0 k x3 (x4 ++ [(⟨wrap64 ((wrap64 (1 + bt137.1)) * ((rd_T32 x3 x5).f0)), wrap64 ((wrap64 (1 + bt137.1)) * ((rd_T32 x3 x5).f1))⟩ : S32)]) (wrap64 (x5 + 1)) x1000 bt137.2) else (none)) else (none))) else (spec_l92Star.l0 k x3 x4 (wrap64 (x5 + 1)) x1000 bt135.2)))) else (some (x4, x1001))
def spec_l92Star.f (k : Nat) (s0_0 : List Int) (s0_1 : Int) : Option ((List (S32)) × Int) := spec_l92Star.l0 k (([(⟨2, 0⟩ : S32), (⟨2, 1⟩ : S32), (⟨1, 2⟩ : S32), (⟨0, 2⟩ : S32), (⟨(-1), 2⟩ : S32), (⟨(-2), 1⟩ : S32), (⟨(-2), 0⟩ : S32), (⟨(-2), (-1)⟩ : S32), (⟨(-1), (-2)⟩ : S32), (⟨0, (-2)⟩ : S32), (⟨1, (-2)⟩ : S32), (⟨2, (-1)⟩ : S32)] : List (S32))) (([] : List (S32))) 0 s0_0 s0_1
def spec_l92Star.T8 : Bool × List (List Nat × List Nat) := (true, [([], []), ([], []), ([], []), ([], []), ([2, 3], [2, 3]), ([4], [4]), ([5], [5]), ([1, 6], [1, 6]), ([], []), ([], []), ([], []), ([9, 10], [9, 10]), ([11], [11]), ([12], [12]), ([8, 13], [8, 13]), ([7, 14], [7, 14]), ([15], [15]), ([0, 16], [0, 16]), ([17, 17, 0, 1, 2, 3, 4, 5, 6, 7, 8, 9, 10, 11, 12, 13, 14, 15, 16, 17], [0, 17])])
def spec_l92Star.B8 : List Nat := [0, 0, 0, 0, 12, 28, 60, 126, 0, 0, 0, 1536, 3584, 7680, 16128, 32766, 65534, 131071, 262143]
theorem spec_l92Star.tab8 : rtab .any (opsOf Try.f72 8) = spec_l92Star.T8 := by kernel_rfl
theorem spec_l92Star.bits8 : waitsOk spec_l92Star.T8.2 spec_l92Star.B8 = true := by kernel_rfl
set_option maxHeartbeats 8000000 in
set_option maxRecDepth 100000 in
theorem spec_l92Star.calls (k : Nat) (g : Nat) (s0_0 : List Int) (s0_1 : Int) (r1 : List (S32)) (r2 : Int) (w0 w : World) (hI : IsS81 w0 w g s0_0 s0_1) (hB : Below w0.heap.size w0 w) (h : spec_l92Star.f k s0_0 s0_1 = some (r1, r2)) :
    Calls Try.prog 72 #[.pointer (some ⟨g, 0, none⟩)] w fun e w' => ∃ v0_ : Value, e = .returned (v0_) ∧ Kd.R k32 32 w' w.heap.size (fun _ => True) v0_ r1 ∧ IsS81 w0 w' g s0_0 r2 ∧ Below w0.heap.size w0 w' ∧ KeepBut w w' g none := by
  have hu32 := Try.underlying32
  have HI0 := Aside0.mk hI
  have HK := Aside0.mk (KeepBut.refl w g none)
  have HL := Aside0.mk hB.size
  clear hI
  have HW0 := Aside0.mk hB.size
  have HB := Aside0.mk hB
  clear hB
  have H : (spec_l92Star.l0 k (([(⟨2, 0⟩ : S32), (⟨2, 1⟩ : S32), (⟨1, 2⟩ : S32), (⟨0, 2⟩ : S32), (⟨(-1), 2⟩ : S32), (⟨(-2), 1⟩ : S32), (⟨(-2), 0⟩ : S32), (⟨(-2), (-1)⟩ : S32), (⟨(-1), (-2)⟩ : S32), (⟨0, (-2)⟩ : S32), (⟨1, (-2)⟩ : S32), (⟨2, (-1)⟩ : S32)] : List (S32))) (([] : List (S32))) 0 s0_0 s0_1) = some (r1, r2) := h
  clear h
  obtain ⟨y122, hy122⟩ : ∃ y_ : List (S32), y_ = (([(⟨2, 0⟩ : S32), (⟨2, 1⟩ : S32), (⟨1, 2⟩ : S32), (⟨0, 2⟩ : S32), (⟨(-1), 2⟩ : S32), (⟨(-2), 1⟩ : S32), (⟨(-2), 0⟩ : S32), (⟨(-2), (-1)⟩ : S32), (⟨(-1), (-2)⟩ : S32), (⟨0, (-2)⟩ : S32), (⟨1, (-2)⟩ : S32), (⟨2, (-1)⟩ : S32)] : List (S32))) := ⟨_, rfl⟩
  replace H : (spec_l92Star.l0 k y122 (([] : List (S32))) 0 s0_0 s0_1) = some (r1, r2) := by first | (rw [hy122]; with_reducible exact H) | (have H2_ := (Option.bind_some _ _).symm.trans H; rw [hy122]; with_reducible exact H2_) | (have H2_ := (Option.bind_some _ _).symm.trans H; with_reducible exact H2_) | with_reducible exact H | (rw [hy122]; exact H) | exact H
  have Ny122 := Aside0.mk hy122
  clear hy122
  obtain ⟨y125, hy125⟩ : ∃ y_ : List (S32), y_ = (([] : List (S32))) := ⟨_, rfl⟩
  replace H : (spec_l92Star.l0 k y122 y125 0 s0_0 s0_1) = some (r1, r2) := by first | (rw [hy125]; with_reducible exact H) | (have H2_ := (Option.bind_some _ _).symm.trans H; rw [hy125]; with_reducible exact H2_) | (have H2_ := (Option.bind_some _ _).symm.trans H; with_reducible exact H2_) | with_reducible exact H | (rw [hy125]; exact H) | exact H
  have Ny125 := Aside0.mk hy125
  clear hy125
  have H' := Aside0.mk H
  clear H
  go_enter Try.func72, Try.ntmps72
  go_wp2_with (first | ((with_reducible refine gate_dst (N := 19) rfl ?_); refine Kd.R_lit k32 _ 32 ?hg (N := 19) ?hd (xs := ([(⟨2, 0⟩ : S32), (⟨2, 1⟩ : S32), (⟨1, 2⟩ : S32), (⟨0, 2⟩ : S32), (⟨(-1), 2⟩ : S32), (⟨(-2), 1⟩ : S32), (⟨(-2), 0⟩ : S32), (⟨(-2), (-1)⟩ : S32), (⟨(-1), (-2)⟩ : S32), (⟨0, (-2)⟩ : S32), (⟨1, (-2)⟩ : S32), (⟨2, (-1)⟩ : S32)] : List (S32))) (inner := [.int .i64 2, .int .i64 0, .int .i64 2, .int .i64 1, .int .i64 1, .int .i64 2, .int .i64 0, .int .i64 2, .int .i64 (-1), .int .i64 2, .int .i64 (-2), .int .i64 1, .int .i64 (-2), .int .i64 0, .int .i64 (-2), .int .i64 (-1), .int .i64 (-1), .int .i64 (-2), .int .i64 0, .int .i64 (-2), .int .i64 1, .int .i64 (-2), .int .i64 2, .int .i64 (-1)]) (ok := fun _ => True) (okp := fun _ => True) ?hr ?hp (fun _ hk => hk) trivial (Below.refl _ _) (Nat.le_refl _) (by simp) ?_; (case hd => rfl); (case hg => rfl); (case hr => first | (go_simp; done) | (go_simp; rfl)); (case hp => exact (Reps.c2 (show Kd.M k32 _ _ _ (⟨2, 0⟩ : S32) [.int .i64 2, .int .i64 0] from (k32_mkM _ _ _ (⟨2, 0⟩ : S32) )) (Reps.c2 (show Kd.M k32 _ _ _ (⟨2, 1⟩ : S32) [.int .i64 2, .int .i64 1] from (k32_mkM _ _ _ (⟨2, 1⟩ : S32) )) (Reps.c2 (show Kd.M k32 _ _ _ (⟨1, 2⟩ : S32) [.int .i64 1, .int .i64 2] from (k32_mkM _ _ _ (⟨1, 2⟩ : S32) )) (Reps.c2 (show Kd.M k32 _ _ _ (⟨0, 2⟩ : S32) [.int .i64 0, .int .i64 2] from (k32_mkM _ _ _ (⟨0, 2⟩ : S32) )) (Reps.c2 (show Kd.M k32 _ _ _ (⟨(-1), 2⟩ : S32) [.int .i64 (-1), .int .i64 2] from (k32_mkM _ _ _ (⟨(-1), 2⟩ : S32) )) (Reps.c2 (show Kd.M k32 _ _ _ (⟨(-2), 1⟩ : S32) [.int .i64 (-2), .int .i64 1] from (k32_mkM _ _ _ (⟨(-2), 1⟩ : S32) )) (Reps.c2 (show Kd.M k32 _ _ _ (⟨(-2), 0⟩ : S32) [.int .i64 (-2), .int .i64 0] from (k32_mkM _ _ _ (⟨(-2), 0⟩ : S32) )) (Reps.c2 (show Kd.M k32 _ _ _ (⟨(-2), (-1)⟩ : S32) [.int .i64 (-2), .int .i64 (-1)] from (k32_mkM _ _ _ (⟨(-2), (-1)⟩ : S32) )) (Reps.c2 (show Kd.M k32 _ _ _ (⟨(-1), (-2)⟩ : S32) [.int .i64 (-1), .int .i64 (-2)] from (k32_mkM _ _ _ (⟨(-1), (-2)⟩ : S32) )) (Reps.c2 (show Kd.M k32 _ _ _ (⟨0, (-2)⟩ : S32) [.int .i64 0, .int .i64 (-2)] from (k32_mkM _ _ _ (⟨0, (-2)⟩ : S32) )) (Reps.c2 (show Kd.M k32 _ _ _ (⟨1, (-2)⟩ : S32) [.int .i64 1, .int .i64 (-2)] from (k32_mkM _ _ _ (⟨1, (-2)⟩ : S32) )) (Reps.c2 (show Kd.M k32 _ _ _ (⟨2, (-1)⟩ : S32) [.int .i64 2, .int .i64 (-1)] from (k32_mkM _ _ _ (⟨2, (-1)⟩ : S32) )) (Reps.none _ _)))))))))))))); intro v123 w2 ho3 hb hg_ hnew_; clear hg_ hnew_; (first | rw [← Ny122.out] at ho3 | (simp only [Int.reduceToNat] at ho3; rw [← Ny122.out] at ho3)); have n0_ := Aside0.mk (Kd.R_lower ho3 (keep_size (w := w) (g := g) (row := none) (by repeat (first | (with_reducible first | exact HK.out | apply KeepBut.set_ | apply keep_drewN | apply keep_drew | apply keep_alloc) | exact HK.out)))); have n1_ := Aside0.mk (IsS81.below (by repeat (first | (with_reducible first | exact HI0.out | apply IsS81.alloc | apply IsS81.drewN | apply IsS81.drew | apply IsS81.set_1) | exact HI0.out)) hb); have n2_ := Aside0.mk (KeepBut.trans (by repeat (first | (with_reducible first | exact HK.out | apply KeepBut.set_ | apply keep_drewN | apply keep_drew | apply keep_alloc) | exact HK.out)) (KeepBut.of_below hb g none) (.inl rfl)); have n3_ := Aside0.mk (below_step (by repeat (first | (with_reducible first | exact HB.out | apply below_alloc | apply pw_below_drewN | apply below_drew1 | refine below_set ?_ (IsS81.ge HI0.out)) | exact HB.out)) hb); clear HI0; clear HK; clear HB; have HO124 := n0_; have HI0 := n1_; have HK := n2_; have HB := n3_; clear n0_ n1_ n2_ n3_; clear hb ho3) | ((with_reducible refine gate_dst (N := 20) rfl ?_); refine Kd.R_lit k32 _ 32 ?hg (N := 20) ?hd (xs := ([] : List (S32))) (inner := []) (ok := fun _ => True) (okp := fun _ => True) ?hr ?hp (fun _ hk => hk) trivial (Below.refl _ _) (Nat.le_refl _) (by simp) ?_; (case hd => rfl); (case hg => rfl); (case hr => first | (go_simp; done) | (go_simp; rfl)); (case hp => exact (Reps.none _ _)); intro v126 w4 ho5 hb hg_ hnew_; clear hg_ hnew_; (first | rw [← Ny125.out] at ho5 | (simp only [Int.reduceToNat] at ho5; rw [← Ny125.out] at ho5)); have n0_ := Aside0.mk (Kd.R_elder' (by (with_reducible repeat (first | apply Kd.R_alloc | apply Kd.R_drewN | apply Kd.R_drew)); exact HO124.out) (Kd.R_base ho5) hb); have n1_ := Aside0.mk (Kd.R_lower (Kd.R_new' ho5 (Kd.R_lt (by (with_reducible repeat (first | apply Kd.R_alloc | apply Kd.R_drewN | apply Kd.R_drew)); exact HO124.out))) (keep_size (w := w) (g := g) (row := none) (by repeat (first | (with_reducible first | exact HK.out | apply KeepBut.set_ | apply keep_drewN | apply keep_drew | apply keep_alloc) | exact HK.out)))); have n2_ := Aside0.mk (IsS81.below (by repeat (first | (with_reducible first | exact HI0.out | apply IsS81.alloc | apply IsS81.drewN | apply IsS81.drew | apply IsS81.set_1) | exact HI0.out)) hb); have n3_ := Aside0.mk (KeepBut.trans (by repeat (first | (with_reducible first | exact HK.out | apply KeepBut.set_ | apply keep_drewN | apply keep_drew | apply keep_alloc) | exact HK.out)) (KeepBut.of_below hb g none) (.inl rfl)); have n4_ := Aside0.mk (below_step (by repeat (first | (with_reducible first | exact HB.out | apply below_alloc | apply pw_below_drewN | apply below_drew1 | refine below_set ?_ (IsS81.ge HI0.out)) | exact HB.out)) hb); clear HO124; clear HI0; clear HK; clear HB; have HO124 := n0_; have HO127 := n1_; have HI0 := n2_; have HK := n3_; have HB := n4_; clear n0_ n1_ n2_ n3_ n4_; clear hb ho5))
  go_loopg [4, 5] k (fun kq v4 v5 w' => ∃ (x4_1 : List (S32)) (x5_1 : Int) (x1001_1 : Int), v5 = .int .i64 x5_1 ∧ Aside0 (spec_l92Star.l0 kq y122 x4_1 x5_1 s0_0 x1001_1 = some (r1, r2)) ∧ Aside0 (kq ≤ k) ∧ Aside0 (Kd.R k32 32 w' w.heap.size (fun k_ => some k_ ≠ (v4 : Value).ownBlock) v123 y122) ∧ Aside0 (Kd.R k32 32 w' w.heap.size (fun k_ => some k_ ≠ (v123 : Value).ownBlock) v4 x4_1) ∧ Aside0 (IsS81 w0 w' g s0_0 x1001_1) ∧ Aside0 (KeepBut w w' g none) ∧ Aside0 (Below w0.heap.size w0 w'))
  case atStart => exact ⟨(y125), (0), (s0_1), (by first | rfl | (simp; done) | (simp [*]; done)), H', ⟨Nat.le_refl _⟩, ⟨by (with_reducible repeat (first | apply Kd.R_alloc | apply Kd.R_drewN | apply Kd.R_drew)); exact Kd.R_mono HO124.out (fun _ hk => hk.2)⟩, ⟨by (with_reducible repeat (first | apply Kd.R_alloc | apply Kd.R_drewN | apply Kd.R_drew)); exact Kd.R_mono HO127.out (fun _ hk => hk.2)⟩, ⟨by repeat (first | (with_reducible first | exact HI0.out | apply IsS81.alloc | apply IsS81.drewN | apply IsS81.drew | apply IsS81.set_1) | exact HI0.out)⟩, ⟨by repeat (first | (with_reducible first | exact HK.out | apply KeepBut.set_ | apply keep_drewN | apply keep_drew | apply keep_alloc) | exact HK.out)⟩, ⟨by repeat (first | (with_reducible first | exact HB.out | apply below_alloc | apply pw_below_drewN | apply below_drew1 | refine below_set ?_ (IsS81.ge HI0.out)) | exact HB.out)⟩⟩
  case round =>
    clear H'
    try clear c2
    try clear p2
    obtain ⟨x4_1, x5_1, x1001_1, rfl, HA, HK1, HO_3, HO_4, HI0, HK, HB⟩ := hrel
    cases gk with
    | zero => exact absurd HA.out (by simp [spec_l92Star.l0])
    | succ k1 =>
      have H := HA.out
      clear HA
      simp only [spec_l92Star.l0] at H
      by_cases c6 : x5_1 < (y122.length : Int)
      · rw [if_pos c6] at H
        have c6b0 : decide (x5_1 < (y122.length : Int)) = true := decide_eq_true c6
        clear c6
        by_cases c7 : (Int.tmod x5_1 4) = 0
        · rw [if_pos c7] at H
          have c7b0 : ((Int.tmod x5_1 4) == 0) = true := beq_iff_eq.mpr c7
          have c7b1 : ((Int.tmod x5_1 4) != 0) = false := bne_eq_false_iff_eq.mpr c7
          clear c7
          replace H := Option.bind_eq_some_iff.mp H
          obtain ⟨⟨t128, t129⟩, A80, H⟩ := H
          replace H : (if 0 ≤ x5_1 then (if x4_1.length < 8796093022208 then (spec_l92Star.l0 k1 y122 (x4_1 ++ [(⟨wrap64 ((wrap64 (1 + t128)) * ((rd_T32 y122 x5_1).f0)), wrap64 ((wrap64 (1 + t128)) * ((rd_T32 y122 x5_1).f1))⟩ : S32)]) (wrap64 (x5_1 + 1)) s0_0 t129) else (none)) else (none)) = some (r1, r2) := H
          have A8 := Aside0.mk A80
          clear A80
          by_cases c9 : 0 ≤ x5_1
          · rw [if_pos c9] at H
            have c9b0 : decide (0 ≤ x5_1) = true := decide_eq_true c9
            clear c9
            by_cases c10 : x4_1.length < 8796093022208
            · rw [if_pos c10] at H
              have LMc10 := Aside0.mk c10
              clear c10
              obtain ⟨y132, hy132⟩ : ∃ y_ : List (S32), y_ = (x4_1 ++ [(⟨wrap64 ((wrap64 (1 + t128)) * ((rd_T32 y122 x5_1).f0)), wrap64 ((wrap64 (1 + t128)) * ((rd_T32 y122 x5_1).f1))⟩ : S32)]) := ⟨_, rfl⟩
              replace H : (spec_l92Star.l0 k1 y122 y132 (wrap64 (x5_1 + 1)) s0_0 t129) = some (r1, r2) := by first | (rw [hy132]; with_reducible exact H) | (have H2_ := (Option.bind_some _ _).symm.trans H; rw [hy132]; with_reducible exact H2_) | (have H2_ := (Option.bind_some _ _).symm.trans H; with_reducible exact H2_) | with_reducible exact H | (rw [hy132]; exact H) | exact H
              have Ny132 := Aside0.mk hy132
              clear hy132
              have H' := Aside0.mk H
              clear H
              obtain ⟨Ao11, co11, eo11⟩ := Kd.R_slice HO_3.out
              subst eo11
              try go_wp2_with (first | ((with_reducible refine gate_callee (f := 48) rfl ?_); refine goesL_ (some 36) rfl rfl Try.func48 (by kernel_rfl) rfl #[.pointer (some ⟨g, 0, none⟩), .int .i64 3] rfl (by (try simp only [List.map_toArray, List.map_cons, List.map_nil]); first | done | rfl | (simp only [List.length_drop, List.length_take]; rfl)) ?_; (with_reducible refine (spec_l6Rd_pick.calls k1 g s0_0 x1001_1 3 t128 t129 w0 _ ?side1 ?side2 A8.out).mono ?_); (case side1 => repeat (first | (with_reducible first | exact HI0.out | apply IsS81.alloc | apply IsS81.drewN | apply IsS81.drew | apply IsS81.set_1) | exact HI0.out)); (case side2 => repeat (first | (with_reducible first | exact HB.out | apply below_alloc | apply pw_below_drewN | apply below_drew1 | refine below_set ?_ (IsS81.ge HI0.out)) | exact HB.out)); rintro e w12 ⟨rfl, hi, hb, hk⟩; refine ⟨_, rfl, ?_⟩; have n0_ := Aside0.mk (Kd.R_mono (Kd.R_keep (IsS81.apart (show IsS81 w0 _ g s0_0 x1001_1 from by repeat (first | (with_reducible first | exact HI0.out | apply IsS81.alloc | apply IsS81.drewN | apply IsS81.drew | apply IsS81.set_1) | exact HI0.out)) (by (with_reducible repeat (first | apply Kd.R_alloc | apply Kd.R_drewN | apply Kd.R_drew)); exact HO_3.out) (by decide)) hk (fun _ h => h.2)) (fun _ h => h.1)); have n1_ := Aside0.mk (Kd.R_mono (Kd.R_keep (IsS81.apart (show IsS81 w0 _ g s0_0 x1001_1 from by repeat (first | (with_reducible first | exact HI0.out | apply IsS81.alloc | apply IsS81.drewN | apply IsS81.drew | apply IsS81.set_1) | exact HI0.out)) (by (with_reducible repeat (first | apply Kd.R_alloc | apply Kd.R_drewN | apply Kd.R_drew)); exact HO_4.out) (by decide)) hk (fun _ h => h.2)) (fun _ h => h.1)); have n2_ := Aside0.mk (KeepBut.trans (by repeat (first | (with_reducible first | exact HK.out | apply KeepBut.set_ | apply keep_drewN | apply keep_drew | apply keep_alloc) | exact HK.out)) hk (.inl rfl)); have n3_ := Aside0.mk (hb); have n4_ := Aside0.mk (hi); clear HO_3; clear HO_4; clear HK; clear HB; clear HI0; have HO_3 := n0_; have HO_4 := n1_; have HK := n2_; have HB := n3_; have HI0 := n4_; clear n0_ n1_ n2_ n3_ n4_; (try clear hb); (try clear hb2); (try clear hk); (try clear hi)))
              have n0_ := Aside0.mk (Kd.R_drew HO_3.out)
              have n1_ := Aside0.mk (Kd.R_drew HO_4.out)
              have n2_ := Aside0.mk (IsS81.drew HI0.out)
              have n3_ := Aside0.mk (keep_drew HK.out)
              have n4_ := Aside0.mk (below_drew1 HB.out)
              clear HO_3
              clear HO_4
              clear HI0
              clear HK
              clear HB
              have HO_3 := n0_
              have HO_4 := n1_
              have HI0 := n2_
              have HK := n3_
              have HB := n4_
              clear n0_ n1_ n2_ n3_ n4_
              have p130 : 0 ≤ (x5_1 : Int) := of_decide_eq_true (by first | (with_reducible assumption) | assumption)
              have q130 : x5_1 < (y122.length : Int) := of_decide_eq_true (by first | (with_reducible assumption) | assumption)
              obtain ⟨ad130, e130, hx130_0, hx130_1⟩ := at_T32 (Kd.R_reads' HO_3.out).2.2 x5_1 p130 q130
              cases e130
              replace p130 := eq_true p130
              replace q130 := eq_true q130
              have p131 : 0 ≤ (x5_1 : Int) := of_decide_eq_true (by first | (with_reducible assumption) | assumption)
              have q131 : x5_1 < (y122.length : Int) := of_decide_eq_true (by first | (with_reducible assumption) | assumption)
              obtain ⟨ad131, e131, hx131_0, hx131_1⟩ := at_T32 (Kd.R_reads' HO_3.out).2.2 x5_1 p131 q131
              obtain rfl : ad130 = ad131 := (by injection e131)
              replace p131 := eq_true p131
              replace q131 := eq_true q131
              refine start_ (n := 19) (S := fun w' => w'.cell? (ad130.add ((x5_1).toNat * 2)) = some (.int .i64 ((rd_T32 y122 x5_1).f0)) ∧ w'.cell? ⟨(ad130.add ((x5_1).toNat * 2)).block, (ad130.add ((x5_1).toNat * 2)).off + 1, none⟩ = some (.int .i64 ((rd_T32 y122 x5_1).f1)) ∧ w'.cell? (ad130.add ((x5_1).toNat * 2)) = some (.int .i64 ((rd_T32 y122 x5_1).f0)) ∧ w'.cell? ⟨(ad130.add ((x5_1).toNat * 2)).block, (ad130.add ((x5_1).toNat * 2)).off + 1, none⟩ = some (.int .i64 ((rd_T32 y122 x5_1).f1))) (ds := [16, 17]) #[false, false, false, false, false, false, false, false, false, false, false, false, false, false, false, false, false, false, false] (by kernel_rfl) rfl rfl ⟨hx130_0, hx130_1, hx131_0, hx131_1⟩ (fun hHeld => ?_); refine with_tabW spec_l92Star.tab8 spec_l92Star.bits8 (fun HT_ HW_ => ?_)
              generalize w12.drew = w13 at HO_3 HO_4 HI0 HK HB hx130_0 hx130_1 hx131_0 hx131_1 hHeld ⊢
              refine pure_ (i := 0) (N := some 38) (v := ?_) (a' := ?_) #[true, false, false, false, false, false, false, false, false, false, false, false, false, false, false, false, false, false, false] rfl rfl (any_of HT_.out (by kernel_rfl)) (fun _ _ _ h => h) (Or.inl ⟨by rfl, ?_⟩) ?_ ?_
              rotate_left
              · intro w'
                go_simp
                with_reducible rfl
              rotate_left
              · simp only [Act.put, List.setIfInBounds_toArray, List.set_cons_zero, List.set_cons_succ, i64_w, i32_w]
                rfl
              refine pure_ (i := 1) (N := some 39) (v := ?_) (a' := ?_) #[true, true, false, false, false, false, false, false, false, false, false, false, false, false, false, false, false, false, false] rfl rfl (any_of HT_.out (by kernel_rfl)) (fun _ _ _ h => h) (Or.inl ⟨by rfl, ?_⟩) ?_ ?_
              rotate_left
              · intro w'
                go_simp
                with_reducible rfl
              rotate_left
              · simp only [Act.put, List.setIfInBounds_toArray, List.set_cons_zero, List.set_cons_succ, i64_w, i32_w]
                rfl
              refine pure_ (i := 2) (N := some 40) (v := ?_) (a' := ?_) #[true, true, true, false, false, false, false, false, false, false, false, false, false, false, false, false, false, false, false] rfl rfl (any_of HT_.out (by kernel_rfl)) (fun _ _ _ h => h) (Or.inl ⟨by rfl, ?_⟩) ?_ ?_
              rotate_left
              · intro w'
                go_simp
                with_reducible rfl
              rotate_left
              · simp only [Act.put, List.setIfInBounds_toArray, List.set_cons_zero, List.set_cons_succ, i64_w, i32_w]
                rfl
              refine pure_ (i := 3) (N := some 41) (v := ?_) (a' := ?_) #[true, true, true, true, false, false, false, false, false, false, false, false, false, false, false, false, false, false, false] rfl rfl (any_of HT_.out (by kernel_rfl)) (fun _ _ _ h => h) (Or.inl ⟨by rfl, ?_⟩) ?_ ?_
              rotate_left
              · intro w'
                go_simp
                with_reducible rfl
              rotate_left
              · simp only [Act.put, List.setIfInBounds_toArray, List.set_cons_zero, List.set_cons_succ, i64_w, i32_w]
                rfl
              refine pure_ (i := 4) (N := some 42) (v := ?_) (a' := ?_) #[true, true, true, true, true, false, false, false, false, false, false, false, false, false, false, false, false, false, false] rfl rfl (any_of HT_.out (by kernel_rfl)) (fun _ _ _ h => h) (Or.inl ⟨by rfl, ?_⟩) ?_ ?_
              rotate_left
              · intro w'
                go_simp
                with_reducible rfl
              rotate_left
              · simp only [Act.put, List.setIfInBounds_toArray, List.set_cons_zero, List.set_cons_succ, i64_w, i32_w]
                rfl
              refine pure_ (i := 5) (N := some 43) (v := ?_) (a' := ?_) #[true, true, true, true, true, true, false, false, false, false, false, false, false, false, false, false, false, false, false] rfl rfl (any_of HT_.out (by kernel_rfl)) (fun _ _ _ h => h) (Or.inl ⟨by rfl, ?_⟩) ?_ ?_
              rotate_left
              · intro w'
                go_simp
                with_reducible rfl
              rotate_left
              · simp only [Act.put, List.setIfInBounds_toArray, List.set_cons_zero, List.set_cons_succ, i64_w, i32_w]
                rfl
              refine pure_ (i := 8) (N := some 46) (v := ?_) (a' := ?_) #[true, true, true, true, true, true, false, false, true, false, false, false, false, false, false, false, false, false, false] rfl rfl (any_of HT_.out (by kernel_rfl)) (fun _ _ _ h => h) (Or.inl ⟨by rfl, ?_⟩) ?_ ?_
              rotate_left
              · intro w'
                go_simp
                with_reducible rfl
              rotate_left
              · simp only [Act.put, List.setIfInBounds_toArray, List.set_cons_zero, List.set_cons_succ, i64_w, i32_w]
                rfl
              refine pure_ (i := 9) (N := some 47) (v := ?_) (a' := ?_) #[true, true, true, true, true, true, false, false, true, true, false, false, false, false, false, false, false, false, false] rfl rfl (any_of HT_.out (by kernel_rfl)) (fun _ _ _ h => h) (Or.inl ⟨by rfl, ?_⟩) ?_ ?_
              rotate_left
              · intro w'
                go_simp
                with_reducible rfl
              rotate_left
              · simp only [Act.put, List.setIfInBounds_toArray, List.set_cons_zero, List.set_cons_succ, i64_w, i32_w]
                rfl
              refine pure_ (i := 10) (N := some 48) (v := ?_) (a' := ?_) #[true, true, true, true, true, true, false, false, true, true, true, false, false, false, false, false, false, false, false] rfl rfl (any_of HT_.out (by kernel_rfl)) (fun _ _ _ h => h) (Or.inl ⟨by rfl, ?_⟩) ?_ ?_
              rotate_left
              · intro w'
                go_simp
                with_reducible rfl
              rotate_left
              · simp only [Act.put, List.setIfInBounds_toArray, List.set_cons_zero, List.set_cons_succ, i64_w, i32_w]
                rfl
              refine pure_ (i := 11) (N := some 49) (v := ?_) (a' := ?_) #[true, true, true, true, true, true, false, false, true, true, true, true, false, false, false, false, false, false, false] rfl rfl (any_of HT_.out (by kernel_rfl)) (fun _ _ _ h => h) (Or.inl ⟨by rfl, ?_⟩) ?_ ?_
              rotate_left
              · intro w'
                go_simp
                with_reducible rfl
              rotate_left
              · simp only [Act.put, List.setIfInBounds_toArray, List.set_cons_zero, List.set_cons_succ, i64_w, i32_w]
                rfl
              refine pure_ (i := 12) (N := some 50) (v := ?_) (a' := ?_) #[true, true, true, true, true, true, false, false, true, true, true, true, true, false, false, false, false, false, false] rfl rfl (any_of HT_.out (by kernel_rfl)) (fun _ _ _ h => h) (Or.inl ⟨by rfl, ?_⟩) ?_ ?_
              rotate_left
              · intro w'
                go_simp
                with_reducible rfl
              rotate_left
              · simp only [Act.put, List.setIfInBounds_toArray, List.set_cons_zero, List.set_cons_succ, i64_w, i32_w]
                rfl
              refine take_ (i := 6) (N := some 44) (v := ?_) (a' := ?_) #[true, true, true, true, true, true, true, false, true, true, true, true, true, false, false, false, false, false, false] rfl rfl (take_ofW HT_.out HW_.out (by kernel_rfl)) (fun _ _ _ h => h) (Or.inl ⟨by rfl, ?_⟩) hHeld ?_ ?_
              rotate_left
              · rintro w' ⟨s0, s1, s2, s3⟩
                go_simp
                with_reducible rfl
              rotate_left
              · simp only [Act.put, List.setIfInBounds_toArray, List.set_cons_zero, List.set_cons_succ, i64_w, i32_w]
                rfl
              refine pure_ (i := 7) (N := some 45) (v := ?_) (a' := ?_) #[true, true, true, true, true, true, true, true, true, true, true, true, true, false, false, false, false, false, false] rfl rfl (any_of HT_.out (by kernel_rfl)) (fun _ _ _ h => h) (Or.inl ⟨by rfl, ?_⟩) ?_ ?_
              rotate_left
              · intro w'
                go_simp
                with_reducible rfl
              rotate_left
              · simp only [Act.put, List.setIfInBounds_toArray, List.set_cons_zero, List.set_cons_succ, i64_w, i32_w]
                rfl
              refine take_ (i := 13) (N := some 51) (v := ?_) (a' := ?_) #[true, true, true, true, true, true, true, true, true, true, true, true, true, true, false, false, false, false, false] rfl rfl (take_ofW HT_.out HW_.out (by kernel_rfl)) (fun _ _ _ h => h) (Or.inl ⟨by rfl, ?_⟩) hHeld ?_ ?_
              rotate_left
              · rintro w' ⟨s0, s1, s2, s3⟩
                go_simp
                with_reducible rfl
              rotate_left
              · simp only [Act.put, List.setIfInBounds_toArray, List.set_cons_zero, List.set_cons_succ, i64_w, i32_w]
                rfl
              refine pure_ (i := 14) (N := some 52) (v := ?_) (a' := ?_) #[true, true, true, true, true, true, true, true, true, true, true, true, true, true, true, false, false, false, false] rfl rfl (any_of HT_.out (by kernel_rfl)) (fun _ _ _ h => h) (Or.inl ⟨by rfl, ?_⟩) ?_ ?_
              rotate_left
              · intro w'
                go_simp
                with_reducible rfl
              rotate_left
              · simp only [Act.put, List.setIfInBounds_toArray, List.set_cons_zero, List.set_cons_succ, i64_w, i32_w]
                rfl
              refine pure_ (i := 15) (N := some 53) (v := ?_) (a' := ?_) #[true, true, true, true, true, true, true, true, true, true, true, true, true, true, true, true, false, false, false] rfl rfl (any_of HT_.out (by kernel_rfl)) (fun _ _ _ h => h) (Or.inl ⟨by rfl, ?_⟩) ?_ ?_
              rotate_left
              · intro w'
                go_simp
                with_reducible rfl
              rotate_left
              · simp only [Act.put, List.setIfInBounds_toArray, List.set_cons_zero, List.set_cons_succ, i64_w, i32_w]
                rfl
              refine last_ (i := 16) (N := some 54) #[true, true, true, true, true, true, true, true, true, true, true, true, true, true, true, true, true, false, false] rfl rfl (one_of HT_.out (by kernel_rfl)) (by decide) (fun K hK => ?_)
              refine value_ (w1 := ?_) (v := ?_) (by rfl) rfl ?_ ?_
              rotate_left 2
              · go_simp
                constructor
                · rfl
                · rfl
              refine hK.out _ _ ?_
              clear hK K
              refine norm_ (a' := ?_) ?_ ?_
              rotate_left
              · show Act.put _ (some 54) _ = _
                simp only [Act.put, List.setIfInBounds_toArray, List.set_cons_zero, List.set_cons_succ, i64_w, i32_w]
                rfl
              refine last_ (i := 17) (N := some 55) #[true, true, true, true, true, true, true, true, true, true, true, true, true, true, true, true, true, true, false] rfl rfl (one_of HT_.out (by kernel_rfl)) (by decide) (fun K hK => ?_)
              refine Kd.R_append_step k32 w.heap.size (by rfl) (.tmp 38) (.tmp 54) 23 32 (.agg #[(.int .i64 0), (.int .i64 0)]) 16 rfl Try.underlying23 info32 rfl (by decide) (by omega) u4 x4_1 (⟨wrap64 ((wrap64 (1 + t128)) * ((rd_T32 y122 x5_1).f0)), wrap64 ((wrap64 (1 + t128)) * ((rd_T32 y122 x5_1).f1))⟩ : S32) [.int .i64 (wrap64 ((wrap64 (1 + t128)) * ((rd_T32 y122 x5_1).f0))), .int .i64 (wrap64 ((wrap64 (1 + t128)) * ((rd_T32 y122 x5_1).f1)))] (fun k_ => some k_ ≠ (.slice (some ad130) y122.length co11 : Value).ownBlock) (fun _ => False) rfl rfl ?aP (fun _ hk => hk.elim) ?aF ?aO (Below.refl _ _) ?aS ?aL ?_
              (case aP => exact k32_mkM _ _ _ (⟨wrap64 ((wrap64 (1 + t128)) * ((rd_T32 y122 x5_1).f0)), wrap64 ((wrap64 (1 + t128)) * ((rd_T32 y122 x5_1).f1))⟩ : S32))
              (case aF => exact (fun k_ hk => Kd.fresh' (Kd.R_lt (by (with_reducible repeat (first | apply Kd.R_alloc | apply Kd.R_drewN | apply Kd.R_drew)); exact HO_3.out)) k_ hk))
              (case aO => exact (by (with_reducible repeat (first | apply Kd.R_alloc | apply Kd.R_drewN | apply Kd.R_drew)); exact HO_4.out))
              (case aS => exact (keep_size (w := w) (g := g) (row := none) (by repeat (first | (with_reducible first | exact HK.out | apply KeepBut.set_ | apply keep_drewN | apply keep_drew | apply keep_alloc) | exact HK.out))))
              (case aL => have := LMc10.out; omega)
              intro v133 w14 ho hb hg hat
              rw [← Ny132.out] at ho
              have n0_ := Aside0.mk (Kd.R_after (ok := (fun _ => True)) (by (with_reducible repeat (first | apply Kd.R_alloc | apply Kd.R_drewN | apply Kd.R_drew)); exact Kd.R_mono HO_3.out (fun _ hk => ⟨trivial, hk⟩)) hg hat)
              have n1_ := Aside0.mk (IsS81.grown (by repeat (first | (with_reducible first | exact HI0.out | apply IsS81.alloc | apply IsS81.drewN | apply IsS81.drew | apply IsS81.set_1) | exact HI0.out)) hg (IsS81.own_ne HI0.out HO_4.out (by decide)))
              have n2_ := Aside0.mk (below_weaken (by repeat (first | (with_reducible first | exact HB.out | apply below_alloc | apply pw_below_drewN | apply below_drew1 | refine below_set ?_ (IsS81.ge HI0.out)) | exact HB.out)) HL.out hb)
              have n3_ := Aside0.mk (KeepBut.trans (by repeat (first | (with_reducible first | exact HK.out | apply KeepBut.set_ | apply keep_drewN | apply keep_drew | apply keep_alloc) | exact HK.out)) (KeepBut.of_grown hg g) (Kd.R_base2 HO_4.out))
              have n4_ := Aside0.mk (ho)
              clear HO_3
              clear HI0
              clear HB
              clear HK
              clear HO_4
              have HO_3 := n0_
              have HI0 := n1_
              have HB := n2_
              have HK := n3_
              have HO134 := n4_
              clear n0_ n1_ n2_ n3_ n4_
              clear ho hb hg hat
              refine hK.out _ _ ?_
              clear hK K
              refine norm_ (a' := ?_) ?_ ?_
              rotate_left
              · show Act.put _ (some 55) _ = _
                simp only [Act.put, List.setIfInBounds_toArray, List.set_cons_zero, List.set_cons_succ, i64_w, i32_w]
                rfl
              refine pure_ (i := 18) (N := some 4) (v := ?_) (a' := ?_) #[true, true, true, true, true, true, true, true, true, true, true, true, true, true, true, true, true, true, true] rfl rfl (any_of HT_.out (by kernel_rfl)) (fun _ _ _ h => h) (Or.inl ⟨by rfl, ?_⟩) ?_ ?_
              rotate_left
              · intro w'
                go_simp
                with_reducible rfl
              rotate_left
              · simp only [Act.put, List.setIfInBounds_toArray, List.set_cons_zero, List.set_cons_succ, i64_w, i32_w]
                rfl
              refine done_ (done_of HT_.out (by kernel_rfl)) ?_
              try go_wp2
              go_roundg k1
              case measure => have := HK1.out; omega
              case rel => exact ⟨(y132), (wrap64 (x5_1 + 1)), (t129), (by first | rfl | (simp; done) | (simp [*]; done)), H', ⟨by have := HK1.out; omega⟩, ⟨by (with_reducible repeat (first | apply Kd.R_alloc | apply Kd.R_drewN | apply Kd.R_drew)); exact Kd.R_mono HO_3.out (fun _ hk => hk.2)⟩, ⟨by (with_reducible repeat (first | apply Kd.R_alloc | apply Kd.R_drewN | apply Kd.R_drew)); exact HO134.out⟩, ⟨by repeat (first | (with_reducible first | exact HI0.out | apply IsS81.alloc | apply IsS81.drewN | apply IsS81.drew | apply IsS81.set_1) | exact HI0.out)⟩, ⟨by repeat (first | (with_reducible first | exact HK.out | apply KeepBut.set_ | apply keep_drewN | apply keep_drew | apply keep_alloc) | exact HK.out)⟩, ⟨by repeat (first | (with_reducible first | exact HB.out | apply below_alloc | apply pw_below_drewN | apply below_drew1 | refine below_set ?_ (IsS81.ge HI0.out)) | exact HB.out)⟩⟩
            · rw [if_neg c10] at H
              exact absurd H (by simp)
          · rw [if_neg c9] at H
            exact absurd H (by simp)
        · rw [if_neg c7] at H
          have c7b0 : ((Int.tmod x5_1 4) == 0) = false := beq_eq_false_iff_ne.mpr c7
          have c7b1 : ((Int.tmod x5_1 4) != 0) = true := bne_iff_ne.mpr c7
          replace H := Option.bind_eq_some_iff.mp H
          obtain ⟨⟨t135, t136⟩, A150, H⟩ := H
          replace H : (if t135 = 0 then ((spec_l6Rd_pick.f k1 s0_0 t136 3).bind fun bt137 => (if 0 ≤ x5_1 then (if x4_1.length < 8796093022208 then (spec_l92Star.l0 k1 y122 (x4_1 ++ [(⟨wrap64 ((wrap64 (1 + bt137.1)) * ((rd_T32 y122 x5_1).f0)), wrap64 ((wrap64 (1 + bt137.1)) * ((rd_T32 y122 x5_1).f1))⟩ : S32)]) (wrap64 (x5_1 + 1)) s0_0 bt137.2) else (none)) else (none))) else (spec_l92Star.l0 k1 y122 x4_1 (wrap64 (x5_1 + 1)) s0_0 t136)) = some (r1, r2) := H
          have A15 := Aside0.mk A150
          clear A150
          by_cases c16 : t135 = 0
          · rw [if_pos c16] at H
            have c16b0 : (t135 == 0) = true := beq_iff_eq.mpr c16
            have c16b1 : (t135 != 0) = false := bne_eq_false_iff_eq.mpr c16
            clear c16
            replace H := Option.bind_eq_some_iff.mp H
            obtain ⟨⟨t137, t138⟩, A170, H⟩ := H
            replace H : (if 0 ≤ x5_1 then (if x4_1.length < 8796093022208 then (spec_l92Star.l0 k1 y122 (x4_1 ++ [(⟨wrap64 ((wrap64 (1 + t137)) * ((rd_T32 y122 x5_1).f0)), wrap64 ((wrap64 (1 + t137)) * ((rd_T32 y122 x5_1).f1))⟩ : S32)]) (wrap64 (x5_1 + 1)) s0_0 t138) else (none)) else (none)) = some (r1, r2) := H
            have A17 := Aside0.mk A170
            clear A170
            by_cases c18 : 0 ≤ x5_1
            · rw [if_pos c18] at H
              have c18b0 : decide (0 ≤ x5_1) = true := decide_eq_true c18
              clear c18
              by_cases c19 : x4_1.length < 8796093022208
              · rw [if_pos c19] at H
                have LMc19 := Aside0.mk c19
                clear c19
                obtain ⟨y141, hy141⟩ : ∃ y_ : List (S32), y_ = (x4_1 ++ [(⟨wrap64 ((wrap64 (1 + t137)) * ((rd_T32 y122 x5_1).f0)), wrap64 ((wrap64 (1 + t137)) * ((rd_T32 y122 x5_1).f1))⟩ : S32)]) := ⟨_, rfl⟩
                replace H : (spec_l92Star.l0 k1 y122 y141 (wrap64 (x5_1 + 1)) s0_0 t138) = some (r1, r2) := by first | (rw [hy141]; with_reducible exact H) | (have H2_ := (Option.bind_some _ _).symm.trans H; rw [hy141]; with_reducible exact H2_) | (have H2_ := (Option.bind_some _ _).symm.trans H; with_reducible exact H2_) | with_reducible exact H | (rw [hy141]; exact H) | exact H
                have Ny141 := Aside0.mk hy141
                clear hy141
                have H' := Aside0.mk H
                clear H
                obtain ⟨Ao20, co20, eo20⟩ := Kd.R_slice HO_3.out
                subst eo20
                try go_wp2_with (first | (go_at_call 48; (with_reducible refine (spec_l6Rd_pick.calls k1 g s0_0 x1001_1 3 t135 t136 w0 _ ?side1 ?side2 A15.out).mono ?_); (case side1 => repeat (first | (with_reducible first | exact HI0.out | apply IsS81.alloc | apply IsS81.drewN | apply IsS81.drew | apply IsS81.set_1) | exact HI0.out)); (case side2 => repeat (first | (with_reducible first | exact HB.out | apply below_alloc | apply pw_below_drewN | apply below_drew1 | refine below_set ?_ (IsS81.ge HI0.out)) | exact HB.out)); rintro e w21 ⟨rfl, hi, hb, hk⟩; have n0_ := Aside0.mk (Kd.R_mono (Kd.R_keep (IsS81.apart (show IsS81 w0 _ g s0_0 x1001_1 from by repeat (first | (with_reducible first | exact HI0.out | apply IsS81.alloc | apply IsS81.drewN | apply IsS81.drew | apply IsS81.set_1) | exact HI0.out)) (by (with_reducible repeat (first | apply Kd.R_alloc | apply Kd.R_drewN | apply Kd.R_drew)); exact HO_3.out) (by decide)) hk (fun _ h => h.2)) (fun _ h => h.1)); have n1_ := Aside0.mk (Kd.R_mono (Kd.R_keep (IsS81.apart (show IsS81 w0 _ g s0_0 x1001_1 from by repeat (first | (with_reducible first | exact HI0.out | apply IsS81.alloc | apply IsS81.drewN | apply IsS81.drew | apply IsS81.set_1) | exact HI0.out)) (by (with_reducible repeat (first | apply Kd.R_alloc | apply Kd.R_drewN | apply Kd.R_drew)); exact HO_4.out) (by decide)) hk (fun _ h => h.2)) (fun _ h => h.1)); have n2_ := Aside0.mk (KeepBut.trans (by repeat (first | (with_reducible first | exact HK.out | apply KeepBut.set_ | apply keep_drewN | apply keep_drew | apply keep_alloc) | exact HK.out)) hk (.inl rfl)); have n3_ := Aside0.mk (hb); have n4_ := Aside0.mk (hi); clear HO_3; clear HO_4; clear HK; clear HB; clear HI0; have HO_3 := n0_; have HO_4 := n1_; have HK := n2_; have HB := n3_; have HI0 := n4_; clear n0_ n1_ n2_ n3_ n4_; (try clear hb); (try clear hb2); (try clear hk); (try clear hi)) | ((with_reducible refine gate_callee (f := 48) rfl ?_); refine goesL_ (some 36) rfl rfl Try.func48 (by kernel_rfl) rfl #[.pointer (some ⟨g, 0, none⟩), .int .i64 3] rfl (by (try simp only [List.map_toArray, List.map_cons, List.map_nil]); first | done | rfl | (simp only [List.length_drop, List.length_take]; rfl)) ?_; (with_reducible refine (spec_l6Rd_pick.calls k1 g s0_0 t136 3 t137 t138 w0 _ ?side1 ?side2 A17.out).mono ?_); (case side1 => repeat (first | (with_reducible first | exact HI0.out | apply IsS81.alloc | apply IsS81.drewN | apply IsS81.drew | apply IsS81.set_1) | exact HI0.out)); (case side2 => repeat (first | (with_reducible first | exact HB.out | apply below_alloc | apply pw_below_drewN | apply below_drew1 | refine below_set ?_ (IsS81.ge HI0.out)) | exact HB.out)); rintro e w22 ⟨rfl, hi, hb, hk⟩; refine ⟨_, rfl, ?_⟩; have n0_ := Aside0.mk (Kd.R_mono (Kd.R_keep (IsS81.apart (show IsS81 w0 _ g s0_0 t136 from by repeat (first | (with_reducible first | exact HI0.out | apply IsS81.alloc | apply IsS81.drewN | apply IsS81.drew | apply IsS81.set_1) | exact HI0.out)) (by (with_reducible repeat (first | apply Kd.R_alloc | apply Kd.R_drewN | apply Kd.R_drew)); exact HO_3.out) (by decide)) hk (fun _ h => h.2)) (fun _ h => h.1)); have n1_ := Aside0.mk (Kd.R_mono (Kd.R_keep (IsS81.apart (show IsS81 w0 _ g s0_0 t136 from by repeat (first | (with_reducible first | exact HI0.out | apply IsS81.alloc | apply IsS81.drewN | apply IsS81.drew | apply IsS81.set_1) | exact HI0.out)) (by (with_reducible repeat (first | apply Kd.R_alloc | apply Kd.R_drewN | apply Kd.R_drew)); exact HO_4.out) (by decide)) hk (fun _ h => h.2)) (fun _ h => h.1)); have n2_ := Aside0.mk (KeepBut.trans (by repeat (first | (with_reducible first | exact HK.out | apply KeepBut.set_ | apply keep_drewN | apply keep_drew | apply keep_alloc) | exact HK.out)) hk (.inl rfl)); have n3_ := Aside0.mk (hb); have n4_ := Aside0.mk (hi); clear HO_3; clear HO_4; clear HK; clear HB; clear HI0; have HO_3 := n0_; have HO_4 := n1_; have HK := n2_; have HB := n3_; have HI0 := n4_; clear n0_ n1_ n2_ n3_ n4_; (try clear hb); (try clear hb2); (try clear hk); (try clear hi)))
                have n0_ := Aside0.mk (Kd.R_drew HO_3.out)
                have n1_ := Aside0.mk (Kd.R_drew HO_4.out)
                have n2_ := Aside0.mk (IsS81.drew HI0.out)
                have n3_ := Aside0.mk (keep_drew HK.out)
                have n4_ := Aside0.mk (below_drew1 HB.out)
                clear HO_3
                clear HO_4
                clear HI0
                clear HK
                clear HB
                have HO_3 := n0_
                have HO_4 := n1_
                have HI0 := n2_
                have HK := n3_
                have HB := n4_
                clear n0_ n1_ n2_ n3_ n4_
                have p139 : 0 ≤ (x5_1 : Int) := of_decide_eq_true (by first | (with_reducible assumption) | assumption)
                have q139 : x5_1 < (y122.length : Int) := of_decide_eq_true (by first | (with_reducible assumption) | assumption)
                obtain ⟨ad139, e139, hx139_0, hx139_1⟩ := at_T32 (Kd.R_reads' HO_3.out).2.2 x5_1 p139 q139
                cases e139
                replace p139 := eq_true p139
                replace q139 := eq_true q139
                have p140 : 0 ≤ (x5_1 : Int) := of_decide_eq_true (by first | (with_reducible assumption) | assumption)
                have q140 : x5_1 < (y122.length : Int) := of_decide_eq_true (by first | (with_reducible assumption) | assumption)
                obtain ⟨ad140, e140, hx140_0, hx140_1⟩ := at_T32 (Kd.R_reads' HO_3.out).2.2 x5_1 p140 q140
                obtain rfl : ad139 = ad140 := (by injection e140)
                replace p140 := eq_true p140
                replace q140 := eq_true q140
                refine start_ (n := 19) (S := fun w' => w'.cell? (ad139.add ((x5_1).toNat * 2)) = some (.int .i64 ((rd_T32 y122 x5_1).f0)) ∧ w'.cell? ⟨(ad139.add ((x5_1).toNat * 2)).block, (ad139.add ((x5_1).toNat * 2)).off + 1, none⟩ = some (.int .i64 ((rd_T32 y122 x5_1).f1)) ∧ w'.cell? (ad139.add ((x5_1).toNat * 2)) = some (.int .i64 ((rd_T32 y122 x5_1).f0)) ∧ w'.cell? ⟨(ad139.add ((x5_1).toNat * 2)).block, (ad139.add ((x5_1).toNat * 2)).off + 1, none⟩ = some (.int .i64 ((rd_T32 y122 x5_1).f1))) (ds := [16, 17]) #[false, false, false, false, false, false, false, false, false, false, false, false, false, false, false, false, false, false, false] (by kernel_rfl) rfl rfl ⟨hx139_0, hx139_1, hx140_0, hx140_1⟩ (fun hHeld => ?_); refine with_tabW spec_l92Star.tab8 spec_l92Star.bits8 (fun HT_ HW_ => ?_)
                generalize w22.drew = w23 at HO_3 HO_4 HI0 HK HB hx139_0 hx139_1 hx140_0 hx140_1 hHeld ⊢
                refine pure_ (i := 0) (N := some 38) (v := ?_) (a' := ?_) #[true, false, false, false, false, false, false, false, false, false, false, false, false, false, false, false, false, false, false] rfl rfl (any_of HT_.out (by kernel_rfl)) (fun _ _ _ h => h) (Or.inl ⟨by rfl, ?_⟩) ?_ ?_
                rotate_left
                · intro w'
                  go_simp
                  with_reducible rfl
                rotate_left
                · simp only [Act.put, List.setIfInBounds_toArray, List.set_cons_zero, List.set_cons_succ, i64_w, i32_w]
                  rfl
                refine pure_ (i := 1) (N := some 39) (v := ?_) (a' := ?_) #[true, true, false, false, false, false, false, false, false, false, false, false, false, false, false, false, false, false, false] rfl rfl (any_of HT_.out (by kernel_rfl)) (fun _ _ _ h => h) (Or.inl ⟨by rfl, ?_⟩) ?_ ?_
                rotate_left
                · intro w'
                  go_simp
                  with_reducible rfl
                rotate_left
                · simp only [Act.put, List.setIfInBounds_toArray, List.set_cons_zero, List.set_cons_succ, i64_w, i32_w]
                  rfl
                refine pure_ (i := 2) (N := some 40) (v := ?_) (a' := ?_) #[true, true, true, false, false, false, false, false, false, false, false, false, false, false, false, false, false, false, false] rfl rfl (any_of HT_.out (by kernel_rfl)) (fun _ _ _ h => h) (Or.inl ⟨by rfl, ?_⟩) ?_ ?_
                rotate_left
                · intro w'
                  go_simp
                  with_reducible rfl
                rotate_left
                · simp only [Act.put, List.setIfInBounds_toArray, List.set_cons_zero, List.set_cons_succ, i64_w, i32_w]
                  rfl
                refine pure_ (i := 3) (N := some 41) (v := ?_) (a' := ?_) #[true, true, true, true, false, false, false, false, false, false, false, false, false, false, false, false, false, false, false] rfl rfl (any_of HT_.out (by kernel_rfl)) (fun _ _ _ h => h) (Or.inl ⟨by rfl, ?_⟩) ?_ ?_
                rotate_left
                · intro w'
                  go_simp
                  with_reducible rfl
                rotate_left
                · simp only [Act.put, List.setIfInBounds_toArray, List.set_cons_zero, List.set_cons_succ, i64_w, i32_w]
                  rfl
                refine pure_ (i := 4) (N := some 42) (v := ?_) (a' := ?_) #[true, true, true, true, true, false, false, false, false, false, false, false, false, false, false, false, false, false, false] rfl rfl (any_of HT_.out (by kernel_rfl)) (fun _ _ _ h => h) (Or.inl ⟨by rfl, ?_⟩) ?_ ?_
                rotate_left
                · intro w'
                  go_simp
                  with_reducible rfl
                rotate_left
                · simp only [Act.put, List.setIfInBounds_toArray, List.set_cons_zero, List.set_cons_succ, i64_w, i32_w]
                  rfl
                refine pure_ (i := 5) (N := some 43) (v := ?_) (a' := ?_) #[true, true, true, true, true, true, false, false, false, false, false, false, false, false, false, false, false, false, false] rfl rfl (any_of HT_.out (by kernel_rfl)) (fun _ _ _ h => h) (Or.inl ⟨by rfl, ?_⟩) ?_ ?_
                rotate_left
                · intro w'
                  go_simp
                  with_reducible rfl
                rotate_left
                · simp only [Act.put, List.setIfInBounds_toArray, List.set_cons_zero, List.set_cons_succ, i64_w, i32_w]
                  rfl
                refine pure_ (i := 8) (N := some 46) (v := ?_) (a' := ?_) #[true, true, true, true, true, true, false, false, true, false, false, false, false, false, false, false, false, false, false] rfl rfl (any_of HT_.out (by kernel_rfl)) (fun _ _ _ h => h) (Or.inl ⟨by rfl, ?_⟩) ?_ ?_
                rotate_left
                · intro w'
                  go_simp
                  with_reducible rfl
                rotate_left
                · simp only [Act.put, List.setIfInBounds_toArray, List.set_cons_zero, List.set_cons_succ, i64_w, i32_w]
                  rfl
                refine pure_ (i := 9) (N := some 47) (v := ?_) (a' := ?_) #[true, true, true, true, true, true, false, false, true, true, false, false, false, false, false, false, false, false, false] rfl rfl (any_of HT_.out (by kernel_rfl)) (fun _ _ _ h => h) (Or.inl ⟨by rfl, ?_⟩) ?_ ?_
                rotate_left
                · intro w'
                  go_simp
                  with_reducible rfl
                rotate_left
                · simp only [Act.put, List.setIfInBounds_toArray, List.set_cons_zero, List.set_cons_succ, i64_w, i32_w]
                  rfl
                refine pure_ (i := 10) (N := some 48) (v := ?_) (a' := ?_) #[true, true, true, true, true, true, false, false, true, true, true, false, false, false, false, false, false, false, false] rfl rfl (any_of HT_.out (by kernel_rfl)) (fun _ _ _ h => h) (Or.inl ⟨by rfl, ?_⟩) ?_ ?_
                rotate_left
                · intro w'
                  go_simp
                  with_reducible rfl
                rotate_left
                · simp only [Act.put, List.setIfInBounds_toArray, List.set_cons_zero, List.set_cons_succ, i64_w, i32_w]
                  rfl
                refine pure_ (i := 11) (N := some 49) (v := ?_) (a' := ?_) #[true, true, true, true, true, true, false, false, true, true, true, true, false, false, false, false, false, false, false] rfl rfl (any_of HT_.out (by kernel_rfl)) (fun _ _ _ h => h) (Or.inl ⟨by rfl, ?_⟩) ?_ ?_
                rotate_left
                · intro w'
                  go_simp
                  with_reducible rfl
                rotate_left
                · simp only [Act.put, List.setIfInBounds_toArray, List.set_cons_zero, List.set_cons_succ, i64_w, i32_w]
                  rfl
                refine pure_ (i := 12) (N := some 50) (v := ?_) (a' := ?_) #[true, true, true, true, true, true, false, false, true, true, true, true, true, false, false, false, false, false, false] rfl rfl (any_of HT_.out (by kernel_rfl)) (fun _ _ _ h => h) (Or.inl ⟨by rfl, ?_⟩) ?_ ?_
                rotate_left
                · intro w'
                  go_simp
                  with_reducible rfl
                rotate_left
                · simp only [Act.put, List.setIfInBounds_toArray, List.set_cons_zero, List.set_cons_succ, i64_w, i32_w]
                  rfl
                refine take_ (i := 6) (N := some 44) (v := ?_) (a' := ?_) #[true, true, true, true, true, true, true, false, true, true, true, true, true, false, false, false, false, false, false] rfl rfl (take_ofW HT_.out HW_.out (by kernel_rfl)) (fun _ _ _ h => h) (Or.inl ⟨by rfl, ?_⟩) hHeld ?_ ?_
                rotate_left
                · rintro w' ⟨s0, s1, s2, s3⟩
                  go_simp
                  with_reducible rfl
                rotate_left
                · simp only [Act.put, List.setIfInBounds_toArray, List.set_cons_zero, List.set_cons_succ, i64_w, i32_w]
                  rfl
                refine pure_ (i := 7) (N := some 45) (v := ?_) (a' := ?_) #[true, true, true, true, true, true, true, true, true, true, true, true, true, false, false, false, false, false, false] rfl rfl (any_of HT_.out (by kernel_rfl)) (fun _ _ _ h => h) (Or.inl ⟨by rfl, ?_⟩) ?_ ?_
                rotate_left
                · intro w'
                  go_simp
                  with_reducible rfl
                rotate_left
                · simp only [Act.put, List.setIfInBounds_toArray, List.set_cons_zero, List.set_cons_succ, i64_w, i32_w]
                  rfl
                refine take_ (i := 13) (N := some 51) (v := ?_) (a' := ?_) #[true, true, true, true, true, true, true, true, true, true, true, true, true, true, false, false, false, false, false] rfl rfl (take_ofW HT_.out HW_.out (by kernel_rfl)) (fun _ _ _ h => h) (Or.inl ⟨by rfl, ?_⟩) hHeld ?_ ?_
                rotate_left
                · rintro w' ⟨s0, s1, s2, s3⟩
                  go_simp
                  with_reducible rfl
                rotate_left
                · simp only [Act.put, List.setIfInBounds_toArray, List.set_cons_zero, List.set_cons_succ, i64_w, i32_w]
                  rfl
                refine pure_ (i := 14) (N := some 52) (v := ?_) (a' := ?_) #[true, true, true, true, true, true, true, true, true, true, true, true, true, true, true, false, false, false, false] rfl rfl (any_of HT_.out (by kernel_rfl)) (fun _ _ _ h => h) (Or.inl ⟨by rfl, ?_⟩) ?_ ?_
                rotate_left
                · intro w'
                  go_simp
                  with_reducible rfl
                rotate_left
                · simp only [Act.put, List.setIfInBounds_toArray, List.set_cons_zero, List.set_cons_succ, i64_w, i32_w]
                  rfl
                refine pure_ (i := 15) (N := some 53) (v := ?_) (a' := ?_) #[true, true, true, true, true, true, true, true, true, true, true, true, true, true, true, true, false, false, false] rfl rfl (any_of HT_.out (by kernel_rfl)) (fun _ _ _ h => h) (Or.inl ⟨by rfl, ?_⟩) ?_ ?_
                rotate_left
                · intro w'
                  go_simp
                  with_reducible rfl
                rotate_left
                · simp only [Act.put, List.setIfInBounds_toArray, List.set_cons_zero, List.set_cons_succ, i64_w, i32_w]
                  rfl
                refine last_ (i := 16) (N := some 54) #[true, true, true, true, true, true, true, true, true, true, true, true, true, true, true, true, true, false, false] rfl rfl (one_of HT_.out (by kernel_rfl)) (by decide) (fun K hK => ?_)
                refine value_ (w1 := ?_) (v := ?_) (by rfl) rfl ?_ ?_
                rotate_left 2
                · go_simp
                  constructor
                  · rfl
                  · rfl
                refine hK.out _ _ ?_
                clear hK K
                refine norm_ (a' := ?_) ?_ ?_
                rotate_left
                · show Act.put _ (some 54) _ = _
                  simp only [Act.put, List.setIfInBounds_toArray, List.set_cons_zero, List.set_cons_succ, i64_w, i32_w]
                  rfl
                refine last_ (i := 17) (N := some 55) #[true, true, true, true, true, true, true, true, true, true, true, true, true, true, true, true, true, true, false] rfl rfl (one_of HT_.out (by kernel_rfl)) (by decide) (fun K hK => ?_)
                refine Kd.R_append_step k32 w.heap.size (by rfl) (.tmp 38) (.tmp 54) 23 32 (.agg #[(.int .i64 0), (.int .i64 0)]) 16 rfl Try.underlying23 info32 rfl (by decide) (by omega) u4 x4_1 (⟨wrap64 ((wrap64 (1 + t137)) * ((rd_T32 y122 x5_1).f0)), wrap64 ((wrap64 (1 + t137)) * ((rd_T32 y122 x5_1).f1))⟩ : S32) [.int .i64 (wrap64 ((wrap64 (1 + t137)) * ((rd_T32 y122 x5_1).f0))), .int .i64 (wrap64 ((wrap64 (1 + t137)) * ((rd_T32 y122 x5_1).f1)))] (fun k_ => some k_ ≠ (.slice (some ad139) y122.length co20 : Value).ownBlock) (fun _ => False) rfl rfl ?aP (fun _ hk => hk.elim) ?aF ?aO (Below.refl _ _) ?aS ?aL ?_
                (case aP => exact k32_mkM _ _ _ (⟨wrap64 ((wrap64 (1 + t137)) * ((rd_T32 y122 x5_1).f0)), wrap64 ((wrap64 (1 + t137)) * ((rd_T32 y122 x5_1).f1))⟩ : S32))
                (case aF => exact (fun k_ hk => Kd.fresh' (Kd.R_lt (by (with_reducible repeat (first | apply Kd.R_alloc | apply Kd.R_drewN | apply Kd.R_drew)); exact HO_3.out)) k_ hk))
                (case aO => exact (by (with_reducible repeat (first | apply Kd.R_alloc | apply Kd.R_drewN | apply Kd.R_drew)); exact HO_4.out))
                (case aS => exact (keep_size (w := w) (g := g) (row := none) (by repeat (first | (with_reducible first | exact HK.out | apply KeepBut.set_ | apply keep_drewN | apply keep_drew | apply keep_alloc) | exact HK.out))))
                (case aL => have := LMc19.out; omega)
                intro v142 w24 ho hb hg hat
                rw [← Ny141.out] at ho
                have n0_ := Aside0.mk (Kd.R_after (ok := (fun _ => True)) (by (with_reducible repeat (first | apply Kd.R_alloc | apply Kd.R_drewN | apply Kd.R_drew)); exact Kd.R_mono HO_3.out (fun _ hk => ⟨trivial, hk⟩)) hg hat)
                have n1_ := Aside0.mk (IsS81.grown (by repeat (first | (with_reducible first | exact HI0.out | apply IsS81.alloc | apply IsS81.drewN | apply IsS81.drew | apply IsS81.set_1) | exact HI0.out)) hg (IsS81.own_ne HI0.out HO_4.out (by decide)))
                have n2_ := Aside0.mk (below_weaken (by repeat (first | (with_reducible first | exact HB.out | apply below_alloc | apply pw_below_drewN | apply below_drew1 | refine below_set ?_ (IsS81.ge HI0.out)) | exact HB.out)) HL.out hb)
                have n3_ := Aside0.mk (KeepBut.trans (by repeat (first | (with_reducible first | exact HK.out | apply KeepBut.set_ | apply keep_drewN | apply keep_drew | apply keep_alloc) | exact HK.out)) (KeepBut.of_grown hg g) (Kd.R_base2 HO_4.out))
                have n4_ := Aside0.mk (ho)
                clear HO_3
                clear HI0
                clear HB
                clear HK
                clear HO_4
                have HO_3 := n0_
                have HI0 := n1_
                have HB := n2_
                have HK := n3_
                have HO143 := n4_
                clear n0_ n1_ n2_ n3_ n4_
                clear ho hb hg hat
                refine hK.out _ _ ?_
                clear hK K
                refine norm_ (a' := ?_) ?_ ?_
                rotate_left
                · show Act.put _ (some 55) _ = _
                  simp only [Act.put, List.setIfInBounds_toArray, List.set_cons_zero, List.set_cons_succ, i64_w, i32_w]
                  rfl
                refine pure_ (i := 18) (N := some 4) (v := ?_) (a' := ?_) #[true, true, true, true, true, true, true, true, true, true, true, true, true, true, true, true, true, true, true] rfl rfl (any_of HT_.out (by kernel_rfl)) (fun _ _ _ h => h) (Or.inl ⟨by rfl, ?_⟩) ?_ ?_
                rotate_left
                · intro w'
                  go_simp
                  with_reducible rfl
                rotate_left
                · simp only [Act.put, List.setIfInBounds_toArray, List.set_cons_zero, List.set_cons_succ, i64_w, i32_w]
                  rfl
                refine done_ (done_of HT_.out (by kernel_rfl)) ?_
                try go_wp2
                go_roundg k1
                case measure => have := HK1.out; omega
                case rel => exact ⟨(y141), (wrap64 (x5_1 + 1)), (t138), (by first | rfl | (simp; done) | (simp [*]; done)), H', ⟨by have := HK1.out; omega⟩, ⟨by (with_reducible repeat (first | apply Kd.R_alloc | apply Kd.R_drewN | apply Kd.R_drew)); exact Kd.R_mono HO_3.out (fun _ hk => hk.2)⟩, ⟨by (with_reducible repeat (first | apply Kd.R_alloc | apply Kd.R_drewN | apply Kd.R_drew)); exact HO143.out⟩, ⟨by repeat (first | (with_reducible first | exact HI0.out | apply IsS81.alloc | apply IsS81.drewN | apply IsS81.drew | apply IsS81.set_1) | exact HI0.out)⟩, ⟨by repeat (first | (with_reducible first | exact HK.out | apply KeepBut.set_ | apply keep_drewN | apply keep_drew | apply keep_alloc) | exact HK.out)⟩, ⟨by repeat (first | (with_reducible first | exact HB.out | apply below_alloc | apply pw_below_drewN | apply below_drew1 | refine below_set ?_ (IsS81.ge HI0.out)) | exact HB.out)⟩⟩
              · rw [if_neg c19] at H
                exact absurd H (by simp)
            · rw [if_neg c18] at H
              exact absurd H (by simp)
          · rw [if_neg c16] at H
            have c16b0 : (t135 == 0) = false := beq_eq_false_iff_ne.mpr c16
            have c16b1 : (t135 != 0) = true := bne_iff_ne.mpr c16
            have H' := Aside0.mk H
            clear H
            obtain ⟨Ao25, co25, eo25⟩ := Kd.R_slice HO_3.out
            subst eo25
            go_wp2_with (first | (go_at_call 48; (with_reducible refine (spec_l6Rd_pick.calls k1 g s0_0 x1001_1 3 t135 t136 w0 _ ?side1 ?side2 A15.out).mono ?_); (case side1 => repeat (first | (with_reducible first | exact HI0.out | apply IsS81.alloc | apply IsS81.drewN | apply IsS81.drew | apply IsS81.set_1) | exact HI0.out)); (case side2 => repeat (first | (with_reducible first | exact HB.out | apply below_alloc | apply pw_below_drewN | apply below_drew1 | refine below_set ?_ (IsS81.ge HI0.out)) | exact HB.out)); rintro e w26 ⟨rfl, hi, hb, hk⟩; have n0_ := Aside0.mk (Kd.R_mono (Kd.R_keep (IsS81.apart (show IsS81 w0 _ g s0_0 x1001_1 from by repeat (first | (with_reducible first | exact HI0.out | apply IsS81.alloc | apply IsS81.drewN | apply IsS81.drew | apply IsS81.set_1) | exact HI0.out)) (by (with_reducible repeat (first | apply Kd.R_alloc | apply Kd.R_drewN | apply Kd.R_drew)); exact HO_3.out) (by decide)) hk (fun _ h => h.2)) (fun _ h => h.1)); have n1_ := Aside0.mk (Kd.R_mono (Kd.R_keep (IsS81.apart (show IsS81 w0 _ g s0_0 x1001_1 from by repeat (first | (with_reducible first | exact HI0.out | apply IsS81.alloc | apply IsS81.drewN | apply IsS81.drew | apply IsS81.set_1) | exact HI0.out)) (by (with_reducible repeat (first | apply Kd.R_alloc | apply Kd.R_drewN | apply Kd.R_drew)); exact HO_4.out) (by decide)) hk (fun _ h => h.2)) (fun _ h => h.1)); have n2_ := Aside0.mk (KeepBut.trans (by repeat (first | (with_reducible first | exact HK.out | apply KeepBut.set_ | apply keep_drewN | apply keep_drew | apply keep_alloc) | exact HK.out)) hk (.inl rfl)); have n3_ := Aside0.mk (hb); have n4_ := Aside0.mk (hi); clear HO_3; clear HO_4; clear HK; clear HB; clear HI0; have HO_3 := n0_; have HO_4 := n1_; have HK := n2_; have HB := n3_; have HI0 := n4_; clear n0_ n1_ n2_ n3_ n4_; (try clear hb); (try clear hb2); (try clear hk); (try clear hi)))
            go_roundg k1
            case measure => have := HK1.out; omega
            case rel => exact ⟨(x4_1), (wrap64 (x5_1 + 1)), (t136), (by first | rfl | (simp; done) | (simp [*]; done)), H', ⟨by have := HK1.out; omega⟩, ⟨by (with_reducible repeat (first | apply Kd.R_alloc | apply Kd.R_drewN | apply Kd.R_drew)); exact HO_3.out⟩, ⟨by (with_reducible repeat (first | apply Kd.R_alloc | apply Kd.R_drewN | apply Kd.R_drew)); exact HO_4.out⟩, ⟨by repeat (first | (with_reducible first | exact HI0.out | apply IsS81.alloc | apply IsS81.drewN | apply IsS81.drew | apply IsS81.set_1) | exact HI0.out)⟩, ⟨by repeat (first | (with_reducible first | exact HK.out | apply KeepBut.set_ | apply keep_drewN | apply keep_drew | apply keep_alloc) | exact HK.out)⟩, ⟨by repeat (first | (with_reducible first | exact HB.out | apply below_alloc | apply pw_below_drewN | apply below_drew1 | refine below_set ?_ (IsS81.ge HI0.out)) | exact HB.out)⟩⟩
      · rw [if_neg c6] at H
        have c6b0 : decide (x5_1 < (y122.length : Int)) = false := decide_eq_false c6
        clear c6
        simp only [Option.some.injEq, Prod.mk.injEq] at H
        obtain ⟨rfl, rfl⟩ := H
        obtain ⟨Ao27, co27, eo27⟩ := Kd.R_slice HO_3.out
        subst eo27
        go_wp2
        go_ret
        exact ⟨_, by first | rfl | (simp [errW_none, errW_some] <;> rfl) | (simp [*, errW_none, errW_some] <;> rfl), by (with_reducible repeat (first | apply Kd.R_alloc | apply Kd.R_drewN | apply Kd.R_drew)); exact Kd.R_mono HO_4.out (fun _ hk => trivial), by repeat (first | (with_reducible first | exact HI0.out | apply IsS81.alloc | apply IsS81.drewN | apply IsS81.drew | apply IsS81.set_1) | exact HI0.out), by repeat (first | (with_reducible first | exact HB.out | apply below_alloc | apply pw_below_drewN | apply below_drew1 | refine below_set ?_ (IsS81.ge HI0.out)) | exact HB.out), by repeat (first | (with_reducible first | exact HK.out | apply KeepBut.set_ | apply keep_drewN | apply keep_drew | apply keep_alloc) | exact HK.out)⟩

end Go.Proofs.Ytgdhgncdpmalcaa.Q
namespace Go.Proofs.Ytgdhgncdpmalcaa.Q
open Go.RowKit Go.Proofs.YtgdhgncdpmalcaaW.PrintWords Go.Proofs.YtgdhgncdpmalcaaW.PrintLast Go.Proofs.YtgdhgncdpmalcaaW.PrintMore
attribute [local go_sem] max2_int min2_int max_two min_two max_three min_three max_four min_four   -- for this text's walks alone
set_option linter.unusedVariables false
set_option linter.unusedSimpArgs false

/-! ### spec_PolyBack: function 73 -/
def spec_PolyBack.l0 : Nat → List (S32) → List (S32) → Int → Option ((List (S32)) × Bool)
  | 0, _, _, _ => none
  | k + 1, x0, x4, x5 => if x5 > 0 then (if 0 ≤ x5 then (if x5 < (x0.length : Int) then (if x4.length < 8796093022208 then (spec_PolyBack.l0 k x0 (x4 ++ [(⟨(rd_T32 x0 x5).f0, (rd_T32 x0 x5).f1⟩ : S32)]) (wrap64 (x5 - 1))) else (none)) else (none)) else (none)) else (some (x4, true))
def spec_PolyBack.f (k : Nat) (l0 : List (S32)) : Option ((List (S32)) × Bool) := (spec_l31Points.f k l0).bind fun t150 => (if t150 = true then (if 0 < (l0.length : Int) then (spec_PolyBack.l0 k l0 (([(⟨(rd_T32 l0 0).f0, (rd_T32 l0 0).f1⟩ : S32)] : List (S32))) (wrap64 ((l0.length : Int) - 1))) else (none)) else (some ((([] : List (S32))), false)))
set_option maxHeartbeats 8000000 in
set_option maxRecDepth 100000 in
theorem spec_PolyBack.calls (k : Nat) (A0 : Option Addr) (c0 : Nat) (l0 : List (S32)) (r1 : List (S32)) (r2 : Bool) (w : World) (hr0 : Kd.C k32 w A0 l0.length l0) (hc0 : l0.length ≤ c0) (h : spec_PolyBack.f k l0 = some (r1, r2)) :
    Calls Try.prog 73 #[.slice A0 l0.length c0] w fun e w' => ∃ v0_ : Value, e = .returned (.tuple #[v0_, .bool r2]) ∧ Kd.R k32 32 w' w.heap.size (fun _ => True) v0_ r1 ∧ Below w.heap.size w w' := by
  have hu32 := Try.underlying32
  have HR0 := Aside0.mk hr0
  have HC0 := Aside0.mk hc0
  clear hr0 hc0
  have HB := Aside0.mk (Below.refl w.heap.size w)
  have H : ((spec_l31Points.f k l0).bind fun t150 => (if t150 = true then (if 0 < (l0.length : Int) then (spec_PolyBack.l0 k l0 (([(⟨(rd_T32 l0 0).f0, (rd_T32 l0 0).f1⟩ : S32)] : List (S32))) (wrap64 ((l0.length : Int) - 1))) else (none)) else (some ((([] : List (S32))), false)))) = some (r1, r2) := h
  clear h
  replace H := Option.bind_eq_some_iff.mp H
  obtain ⟨t150, A20, H⟩ := H
  replace H : (if t150 = true then (if 0 < (l0.length : Int) then (spec_PolyBack.l0 k l0 (([(⟨(rd_T32 l0 0).f0, (rd_T32 l0 0).f1⟩ : S32)] : List (S32))) (wrap64 ((l0.length : Int) - 1))) else (none)) else (some ((([] : List (S32))), false))) = some (r1, r2) := H
  have A2 := Aside0.mk A20
  clear A20
  by_cases c3 : t150 = true
  · subst c3
    have H1 : (if 0 < (l0.length : Int) then (spec_PolyBack.l0 k l0 (([(⟨(rd_T32 l0 0).f0, (rd_T32 l0 0).f1⟩ : S32)] : List (S32))) (wrap64 ((l0.length : Int) - 1))) else (none)) = some (r1, r2) := by rw [if_pos rfl] at H; exact H
    clear H
    have H := H1
    clear H1
    by_cases c4 : 0 < (l0.length : Int)
    · rw [if_pos c4] at H
      have c4b0 : decide (0 < (l0.length : Int)) = true := decide_eq_true c4
      have c4b1 : decide (0 < l0.length) = true := decide_eq_true (by omega)
      clear c4
      obtain ⟨y155, hy155⟩ : ∃ y_ : List (S32), y_ = (([(⟨(rd_T32 l0 0).f0, (rd_T32 l0 0).f1⟩ : S32)] : List (S32))) := ⟨_, rfl⟩
      replace H : (spec_PolyBack.l0 k l0 y155 (wrap64 ((l0.length : Int) - 1))) = some (r1, r2) := by first | (rw [hy155]; with_reducible exact H) | (have H2_ := (Option.bind_some _ _).symm.trans H; rw [hy155]; with_reducible exact H2_) | (have H2_ := (Option.bind_some _ _).symm.trans H; with_reducible exact H2_) | with_reducible exact H | (rw [hy155]; exact H) | exact H
      have Ny155 := Aside0.mk hy155
      clear hy155
      have H' := Aside0.mk H
      clear H
      go_enter Try.func73, Try.ntmps73
      go_wp2_with (first | ((with_reducible refine gate_callee (f := 45) rfl ?_); refine goesL_ (some 7) rfl rfl Try.func45 (by kernel_rfl) rfl #[.slice A0 l0.length c0] rfl (by (try simp only [List.map_toArray, List.map_cons, List.map_nil]); first | done | rfl | (simp only [List.length_drop, List.length_take]; rfl)) ?_; (with_reducible refine (spec_l31Points.calls k _ _ l0 true _ ?side1 ?side2 A2.out).mono ?_); (case side1 => repeat (first | exact HR0.out | (with_reducible refine Kd.C_alloc ?_ _) | (with_reducible refine Kd.C_drewN ?_ _) | (with_reducible refine Kd.C_drew ?_))); (case side2 => exact HC0.out); rintro e w5 ⟨rfl, hb⟩; refine ⟨_, rfl, ?_⟩; have n0_ := Aside0.mk (below_step (by repeat (first | (with_reducible first | exact HB.out | apply below_alloc | apply pw_below_drewN | apply below_drew1) | exact HB.out)) hb); clear HB; have HB := n0_; clear n0_; (try clear hb); (try clear hb2); (try clear hk); (try clear hi); have p154 : 0 ≤ (0 : Int) := (by omega); have q154 : 0 < (l0.length : Int) := of_decide_eq_true (by first | (with_reducible assumption) | assumption); obtain ⟨ad154, e154, hx154_0, hx154_1⟩ := at_T32 HR0.out 0 p154 q154; cases e154; have qi154 : (0 < l0.length) = True := eq_true (by omega); (try rw [show ((0 : Int)).toNat = 0 from rfl] at hx154_0); (try rw [show 0 * 2 = 0 from rfl] at hx154_0); (try rw [Addr.add_zero'] at hx154_0); (try rw [show ((0 : Int)).toNat = 0 from rfl] at hx154_1); (try rw [show 0 * 2 = 0 from rfl] at hx154_1); (try rw [Addr.add_zero'] at hx154_1); replace hx154_0 := (HB.out.cell (World.block_lt_of_cell? w _ hx154_0)).trans hx154_0; replace hx154_1 := (HB.out.cell (World.block_lt_of_cell? w _ hx154_1)).trans hx154_1; replace p154 := eq_true p154; replace q154 := eq_true q154) | ((with_reducible refine gate_dst (N := 13) rfl ?_); refine Kd.R_lit k32 _ 32 ?hg (N := 13) ?hd (xs := ([(⟨(rd_T32 l0 0).f0, (rd_T32 l0 0).f1⟩ : S32)] : List (S32))) (inner := [.int .i64 ((rd_T32 l0 0).f0), .int .i64 ((rd_T32 l0 0).f1)]) (ok := fun _ => True) (okp := fun _ => True) ?hr ?hp (fun _ hk => hk) trivial (Below.refl _ _) (Nat.le_refl _) (by simp) ?_; (case hd => rfl); (case hg => rfl); (case hr => first | (go_simp; done) | (go_simp; rfl)); (case hp => exact (Reps.c2 (show Kd.M k32 _ _ _ (⟨(rd_T32 l0 0).f0, (rd_T32 l0 0).f1⟩ : S32) [.int .i64 ((rd_T32 l0 0).f0), .int .i64 ((rd_T32 l0 0).f1)] from (k32_mkM _ _ _ (⟨(rd_T32 l0 0).f0, (rd_T32 l0 0).f1⟩ : S32) )) (Reps.none _ _))); intro v156 w6 ho7 hb hg_ hnew_; clear hg_ hnew_; (first | rw [← Ny155.out] at ho7 | (simp only [Int.reduceToNat] at ho7; rw [← Ny155.out] at ho7)); have n0_ := Aside0.mk (Kd.R_lower ho7 (below_size (by repeat (first | (with_reducible first | exact HB.out | apply below_alloc | apply pw_below_drewN | apply below_drew1) | exact HB.out)))); have n1_ := Aside0.mk (below_step (by repeat (first | (with_reducible first | exact HB.out | apply below_alloc | apply pw_below_drewN | apply below_drew1) | exact HB.out)) hb); clear HB; have HO157 := n0_; have HB := n1_; clear n0_ n1_; clear hb ho7))
      go_loopg [4, 5] k (fun kq v4 v5 w' => ∃ (x4_1 : List (S32)) (x5_1 : Int), v5 = .int .i64 x5_1 ∧ Aside0 (spec_PolyBack.l0 kq l0 x4_1 x5_1 = some (r1, r2)) ∧ Aside0 (kq ≤ k) ∧ Aside0 (Kd.R k32 32 w' w.heap.size (fun _ => True) v4 x4_1) ∧ Aside0 (Below w.heap.size w w'))
      case atStart => exact ⟨(y155), (wrap64 ((l0.length : Int) - 1)), (by first | rfl | (simp; done) | (simp [*]; done)), H', ⟨Nat.le_refl _⟩, ⟨by (with_reducible repeat (first | apply Kd.R_alloc | apply Kd.R_drewN | apply Kd.R_drew)); exact HO157.out⟩, ⟨by repeat (first | (with_reducible first | exact HB.out | apply below_alloc | apply pw_below_drewN | apply below_drew1) | exact HB.out)⟩⟩
      case round =>
        clear H'
        try clear p1
        try clear q1
        try clear hx1
        try clear qi1
        try clear c2
        try clear p2
        try clear c3
        try clear c4
        try clear c4b0
        try clear c4b1
        try clear p6
        try clear c7
        try clear hx154_0
        try clear hx154_1
        try clear p154
        try clear q154
        obtain ⟨x4_1, x5_1, rfl, HA, HK1, HO_4, HB⟩ := hrel
        cases gk with
        | zero => exact absurd HA.out (by simp [spec_PolyBack.l0])
        | succ k1 =>
          have H := HA.out
          clear HA
          simp only [spec_PolyBack.l0] at H
          by_cases c8 : x5_1 > 0
          · rw [if_pos c8] at H
            have c8b0 : decide (0 < x5_1) = true := decide_eq_true c8
            clear c8
            by_cases c9 : 0 ≤ x5_1
            · rw [if_pos c9] at H
              have c9b0 : decide (0 ≤ x5_1) = true := decide_eq_true c9
              clear c9
              by_cases c10 : x5_1 < (l0.length : Int)
              · rw [if_pos c10] at H
                have c10b0 : decide (x5_1 < (l0.length : Int)) = true := decide_eq_true c10
                clear c10
                by_cases c11 : x4_1.length < 8796093022208
                · rw [if_pos c11] at H
                  have LMc11 := Aside0.mk c11
                  clear c11
                  obtain ⟨y159, hy159⟩ : ∃ y_ : List (S32), y_ = (x4_1 ++ [(⟨(rd_T32 l0 x5_1).f0, (rd_T32 l0 x5_1).f1⟩ : S32)]) := ⟨_, rfl⟩
                  replace H : (spec_PolyBack.l0 k1 l0 y159 (wrap64 (x5_1 - 1))) = some (r1, r2) := by first | (rw [hy159]; with_reducible exact H) | (have H2_ := (Option.bind_some _ _).symm.trans H; rw [hy159]; with_reducible exact H2_) | (have H2_ := (Option.bind_some _ _).symm.trans H; with_reducible exact H2_) | with_reducible exact H | (rw [hy159]; exact H) | exact H
                  have Ny159 := Aside0.mk hy159
                  clear hy159
                  have H' := Aside0.mk H
                  clear H
                  have p158 : 0 ≤ (x5_1 : Int) := of_decide_eq_true (by first | (with_reducible assumption) | assumption)
                  have q158 : x5_1 < (l0.length : Int) := of_decide_eq_true (by first | (with_reducible assumption) | assumption)
                  obtain ⟨ad158, e158, hx158_0, hx158_1⟩ := at_T32 HR0.out x5_1 p158 q158
                  obtain rfl : ad154 = ad158 := (by injection e158)
                  replace hx158_0 := (HB.out.cell (World.block_lt_of_cell? w _ hx158_0)).trans hx158_0
                  replace hx158_1 := (HB.out.cell (World.block_lt_of_cell? w _ hx158_1)).trans hx158_1
                  replace p158 := eq_true p158
                  replace q158 := eq_true q158
                  go_wp2_with (first | ((with_reducible refine gate_builtin (b := .append) (xs := #[.tmp 21, .tmp 26]) rfl ?_); at_builtin; refine Kd.R_append k32 (w0 := w) w.heap.size rfl (.tmp 21) (.tmp 26) 23 32 (.agg #[(.int .i64 0), (.int .i64 0)]) 16 rfl Try.underlying23 info32 rfl (by decide) (by omega) u4 x4_1 (⟨(rd_T32 l0 x5_1).f0, (rd_T32 l0 x5_1).f1⟩ : S32) [.int .i64 ((rd_T32 l0 x5_1).f0), .int .i64 ((rd_T32 l0 x5_1).f1)] (fun _ => True) (fun _ => False) rfl rfl ?aP (fun _ hk => hk.elim) ?aF ?aO ?aB ?aS ?aL ?_; (case aP => exact k32_mkM _ _ _ (⟨(rd_T32 l0 x5_1).f0, (rd_T32 l0 x5_1).f1⟩ : S32)); (case aB => exact (by repeat (first | (with_reducible first | exact HB.out | apply below_alloc | apply pw_below_drewN | apply below_drew1) | exact HB.out))); (case aF => exact (fun _ _ => trivial)); (case aO => exact (by (with_reducible repeat (first | apply Kd.R_alloc | apply Kd.R_drewN | apply Kd.R_drew)); exact HO_4.out)); (case aS => exact (below_size (by repeat (first | (with_reducible first | exact HB.out | apply below_alloc | apply pw_below_drewN | apply below_drew1) | exact HB.out)))); (case aL => have := LMc11.out; omega); intro v160 w12 ho hb hg hat; rw [← Ny159.out] at ho; have n0_ := Aside0.mk (hb); have n1_ := Aside0.mk (ho); clear HB; clear HO_4; have HB := n0_; have HO161 := n1_; clear n0_ n1_; clear ho hb hg hat))
                  go_roundg k1
                  case measure => have := HK1.out; omega
                  case rel => exact ⟨(y159), (wrap64 (x5_1 - 1)), (by first | rfl | (simp; done) | (simp [*]; done)), H', ⟨by have := HK1.out; omega⟩, ⟨by (with_reducible repeat (first | apply Kd.R_alloc | apply Kd.R_drewN | apply Kd.R_drew)); exact HO161.out⟩, ⟨by repeat (first | (with_reducible first | exact HB.out | apply below_alloc | apply pw_below_drewN | apply below_drew1) | exact HB.out)⟩⟩
                · rw [if_neg c11] at H
                  exact absurd H (by simp)
              · rw [if_neg c10] at H
                exact absurd H (by simp)
            · rw [if_neg c9] at H
              exact absurd H (by simp)
          · rw [if_neg c8] at H
            have c8b0 : decide (0 < x5_1) = false := decide_eq_false c8
            clear c8
            simp only [Option.some.injEq, Prod.mk.injEq] at H
            obtain ⟨rfl, rfl⟩ := H
            go_wp2
            go_ret2
            exact ⟨_, by first | rfl | (simp [errW_none, errW_some] <;> rfl) | (simp [*, errW_none, errW_some] <;> rfl), by (with_reducible repeat (first | apply Kd.R_alloc | apply Kd.R_drewN | apply Kd.R_drew)); exact HO_4.out, by repeat (first | (with_reducible first | exact HB.out | apply below_alloc | apply pw_below_drewN | apply below_drew1) | exact HB.out)⟩
    · rw [if_neg c4] at H
      exact absurd H (by simp)
  · replace c3 := Bool.eq_false_iff.mpr c3
    subst c3
    have H1 : (some ((([] : List (S32))), false)) = some (r1, r2) := by rw [if_neg (show ¬ (false = true) by decide)] at H; exact H
    clear H
    have H := H1
    clear H1
    obtain ⟨y151, hy151⟩ : ∃ y_ : List (S32), y_ = (([] : List (S32))) := ⟨_, rfl⟩
    replace H : (some (y151, false)) = some (r1, r2) := by first | (rw [hy151]; with_reducible exact H) | (have H2_ := (Option.bind_some _ _).symm.trans H; rw [hy151]; with_reducible exact H2_) | (have H2_ := (Option.bind_some _ _).symm.trans H; with_reducible exact H2_) | with_reducible exact H | (rw [hy151]; exact H) | exact H
    have Ny151 := Aside0.mk hy151
    clear hy151
    simp only [Option.some.injEq, Prod.mk.injEq] at H
    obtain ⟨rfl, rfl⟩ := H
    go_enter Try.func73, Try.ntmps73
    go_wp2_with (first | ((with_reducible refine gate_callee (f := 45) rfl ?_); refine goesL_ (some 7) rfl rfl Try.func45 (by kernel_rfl) rfl #[.slice A0 l0.length c0] rfl (by (try simp only [List.map_toArray, List.map_cons, List.map_nil]); first | done | rfl | (simp only [List.length_drop, List.length_take]; rfl)) ?_; (with_reducible refine (spec_l31Points.calls k _ _ l0 false _ ?side1 ?side2 A2.out).mono ?_); (case side1 => repeat (first | exact HR0.out | (with_reducible refine Kd.C_alloc ?_ _) | (with_reducible refine Kd.C_drewN ?_ _) | (with_reducible refine Kd.C_drew ?_))); (case side2 => exact HC0.out); rintro e w13 ⟨rfl, hb⟩; refine ⟨_, rfl, ?_⟩; have n0_ := Aside0.mk (below_step (by repeat (first | (with_reducible first | exact HB.out | apply below_alloc | apply pw_below_drewN | apply below_drew1) | exact HB.out)) hb); clear HB; have HB := n0_; clear n0_; (try clear hb); (try clear hb2); (try clear hk); (try clear hi)) | ((with_reducible refine gate_dst (N := 9) rfl ?_); refine Kd.R_lit k32 _ 32 ?hg (N := 9) ?hd (xs := ([] : List (S32))) (inner := []) (ok := fun _ => True) (okp := fun _ => True) ?hr ?hp (fun _ hk => hk) trivial (Below.refl _ _) (Nat.le_refl _) (by simp) ?_; (case hd => rfl); (case hg => rfl); (case hr => first | (go_simp; done) | (go_simp; rfl)); (case hp => exact (Reps.none _ _)); intro v152 w14 ho15 hb hg_ hnew_; clear hg_ hnew_; (first | rw [← Ny151.out] at ho15 | (simp only [Int.reduceToNat] at ho15; rw [← Ny151.out] at ho15)); have n0_ := Aside0.mk (Kd.R_lower ho15 (below_size (by repeat (first | (with_reducible first | exact HB.out | apply below_alloc | apply pw_below_drewN | apply below_drew1) | exact HB.out)))); have n1_ := Aside0.mk (below_step (by repeat (first | (with_reducible first | exact HB.out | apply below_alloc | apply pw_below_drewN | apply below_drew1) | exact HB.out)) hb); clear HB; have HO153 := n0_; have HB := n1_; clear n0_ n1_; clear hb ho15))
    go_ret2
    exact ⟨_, by first | rfl | (simp [errW_none, errW_some] <;> rfl) | (simp [*, errW_none, errW_some] <;> rfl), by (with_reducible repeat (first | apply Kd.R_alloc | apply Kd.R_drewN | apply Kd.R_drew)); exact HO153.out, by repeat (first | (with_reducible first | exact HB.out | apply below_alloc | apply pw_below_drewN | apply below_drew1) | exact HB.out)⟩

end Go.Proofs.Ytgdhgncdpmalcaa.Q
namespace Go.Proofs.Ytgdhgncdpmalcaa.Q
open Go.RowKit Go.Proofs.YtgdhgncdpmalcaaW.PrintWords Go.Proofs.YtgdhgncdpmalcaaW.PrintLast Go.Proofs.YtgdhgncdpmalcaaW.PrintMore
attribute [local go_sem] max2_int min2_int max_two min_two max_three min_three max_four min_four   -- for this text's walks alone
set_option linter.unusedVariables false
set_option linter.unusedSimpArgs false

/-! ### spec_l92Poly: function 41 -/
def spec_l92Poly.l0 : Nat → List (S32) → Int → Int → List Int → Int → Option ((List (S32)) × Int)
  | 0, _, _, _, _, _ => none
  | k + 1, x3, x4, x5, x1000, x1001 => if x5 < x4 then ((spec_l91Point.f k x1000 x1001).bind fun bt169 => (if x3.length < 8796093022208 then (spec_l92Poly.l0 k (x3 ++ [(⟨bt169.1, bt169.2.1⟩ : S32)]) x4 (wrap64 (x5 + 1)) x1000 bt169.2.2) else (none))) else (some (x3, x1001))
def spec_l92Poly.f (k : Nat) (s0_0 : List Int) (s0_1 : Int) : Option ((List (S32)) × Int) := (spec_l6Rd_pick.f k s0_0 s0_1 8).bind fun bt162 => (if bt162.1 = 0 then ((spec_l6Rd_pick.f k s0_0 bt162.2 6).bind fun bt167 => (spec_l92Poly.l0 k (([] : List (S32))) bt167.1 0 s0_0 bt167.2)) else (if bt162.1 = 1 then ((spec_l92Box.f k s0_0 bt162.2).bind fun bt175 => (some (bt175.1, bt175.2))) else (if bt162.1 = 2 then ((spec_l92Box.f k s0_0 bt162.2).bind fun bt179 => (some (bt179.1, bt179.2))) else (if bt162.1 = 3 then ((spec_l92Box.f k s0_0 bt162.2).bind fun bt183 => (some (bt183.1, bt183.2))) else ((spec_l92Star.f k s0_0 bt162.2).bind fun bt187 => ((spec_l6Rd_pick.f k s0_0 bt187.2 5).bind fun bt191 => (if bt191.1 = 0 then ((spec_PolyBack.f k bt187.1).bind fun bt193 => (some (bt193.1, bt191.2))) else (some (bt187.1, bt191.2)))))))))
set_option maxHeartbeats 8000000 in
set_option maxRecDepth 100000 in
theorem spec_l92Poly.calls (k : Nat) (g : Nat) (s0_0 : List Int) (s0_1 : Int) (r1 : List (S32)) (r2 : Int) (w0 w : World) (hI : IsS81 w0 w g s0_0 s0_1) (hB : Below w0.heap.size w0 w) (h : spec_l92Poly.f k s0_0 s0_1 = some (r1, r2)) :
    Calls Try.prog 41 #[.pointer (some ⟨g, 0, none⟩)] w fun e w' => ∃ v0_ : Value, e = .returned (v0_) ∧ Kd.Q k32 32 w' w.heap.size (fun _ => True) v0_ r1 ∧ IsS81 w0 w' g s0_0 r2 ∧ Below w0.heap.size w0 w' ∧ KeepBut w w' g none := by
  have HI0 := Aside0.mk hI
  have HK := Aside0.mk (KeepBut.refl w g none)
  have HL := Aside0.mk hB.size
  clear hI
  have HW0 := Aside0.mk hB.size
  have HB := Aside0.mk hB
  clear hB
  have H : ((spec_l6Rd_pick.f k s0_0 s0_1 8).bind fun bt162 => (if bt162.1 = 0 then ((spec_l6Rd_pick.f k s0_0 bt162.2 6).bind fun bt167 => (spec_l92Poly.l0 k (([] : List (S32))) bt167.1 0 s0_0 bt167.2)) else (if bt162.1 = 1 then ((spec_l92Box.f k s0_0 bt162.2).bind fun bt175 => (some (bt175.1, bt175.2))) else (if bt162.1 = 2 then ((spec_l92Box.f k s0_0 bt162.2).bind fun bt179 => (some (bt179.1, bt179.2))) else (if bt162.1 = 3 then ((spec_l92Box.f k s0_0 bt162.2).bind fun bt183 => (some (bt183.1, bt183.2))) else ((spec_l92Star.f k s0_0 bt162.2).bind fun bt187 => ((spec_l6Rd_pick.f k s0_0 bt187.2 5).bind fun bt191 => (if bt191.1 = 0 then ((spec_PolyBack.f k bt187.1).bind fun bt193 => (some (bt193.1, bt191.2))) else (some (bt187.1, bt191.2)))))))))) = some (r1, r2) := h
  clear h
  replace H := Option.bind_eq_some_iff.mp H
  obtain ⟨⟨t162, t163⟩, A20, H⟩ := H
  replace H : (if t162 = 0 then ((spec_l6Rd_pick.f k s0_0 t163 6).bind fun bt167 => (spec_l92Poly.l0 k (([] : List (S32))) bt167.1 0 s0_0 bt167.2)) else (if t162 = 1 then ((spec_l92Box.f k s0_0 t163).bind fun bt175 => (some (bt175.1, bt175.2))) else (if t162 = 2 then ((spec_l92Box.f k s0_0 t163).bind fun bt179 => (some (bt179.1, bt179.2))) else (if t162 = 3 then ((spec_l92Box.f k s0_0 t163).bind fun bt183 => (some (bt183.1, bt183.2))) else ((spec_l92Star.f k s0_0 t163).bind fun bt187 => ((spec_l6Rd_pick.f k s0_0 bt187.2 5).bind fun bt191 => (if bt191.1 = 0 then ((spec_PolyBack.f k bt187.1).bind fun bt193 => (some (bt193.1, bt191.2))) else (some (bt187.1, bt191.2))))))))) = some (r1, r2) := H
  have A2 := Aside0.mk A20
  clear A20
  by_cases c3 : t162 = 0
  · rw [if_pos c3] at H
    have c3b0 : (t162 == 0) = true := beq_iff_eq.mpr c3
    have c3b1 : (t162 != 0) = false := bne_eq_false_iff_eq.mpr c3
    clear c3
    obtain ⟨y164, hy164⟩ : ∃ y_ : List (S32), y_ = (([] : List (S32))) := ⟨_, rfl⟩
    replace H : ((spec_l6Rd_pick.f k s0_0 t163 6).bind fun bt167 => (spec_l92Poly.l0 k y164 bt167.1 0 s0_0 bt167.2)) = some (r1, r2) := by first | (rw [hy164]; with_reducible exact H) | (have H2_ := (Option.bind_some _ _).symm.trans H; rw [hy164]; with_reducible exact H2_) | (have H2_ := (Option.bind_some _ _).symm.trans H; with_reducible exact H2_) | with_reducible exact H | (rw [hy164]; exact H) | exact H
    have Ny164 := Aside0.mk hy164
    clear hy164
    replace H := Option.bind_eq_some_iff.mp H
    obtain ⟨⟨t167, t168⟩, A40, H⟩ := H
    replace H : (spec_l92Poly.l0 k y164 t167 0 s0_0 t168) = some (r1, r2) := H
    have A4 := Aside0.mk A40
    clear A40
    have H' := Aside0.mk H
    clear H
    go_enter Try.func41, Try.ntmps41
    go_wp2_with (first | ((with_reducible refine gate_callee (f := 48) rfl ?_); refine goesL_ (some 10) rfl rfl Try.func48 (by kernel_rfl) rfl #[.pointer (some ⟨g, 0, none⟩), .int .i64 8] rfl (by (try simp only [List.map_toArray, List.map_cons, List.map_nil]); first | done | rfl | (simp only [List.length_drop, List.length_take]; rfl)) ?_; (with_reducible refine (spec_l6Rd_pick.calls k g s0_0 s0_1 8 t162 t163 w0 _ ?side1 ?side2 A2.out).mono ?_); (case side1 => repeat (first | (with_reducible first | exact HI0.out | apply IsS81.alloc | apply IsS81.drewN | apply IsS81.drew | apply IsS81.set_1) | exact HI0.out)); (case side2 => repeat (first | (with_reducible first | exact HB.out | apply below_alloc | apply pw_below_drewN | apply below_drew1 | refine below_set ?_ (IsS81.ge HI0.out)) | exact HB.out)); rintro e w5 ⟨rfl, hi, hb, hk⟩; refine ⟨_, rfl, ?_⟩; have n0_ := Aside0.mk (KeepBut.trans (by repeat (first | (with_reducible first | exact HK.out | apply KeepBut.set_ | apply keep_drewN | apply keep_drew | apply keep_alloc) | exact HK.out)) hk (.inl rfl)); have n1_ := Aside0.mk (hb); have n2_ := Aside0.mk (hi); clear HK; clear HB; clear HI0; have HK := n0_; have HB := n1_; have HI0 := n2_; clear n0_ n1_ n2_; (try clear hb); (try clear hb2); (try clear hk); (try clear hi)) | ((with_reducible refine gate_dst (N := 13) rfl ?_); refine Kd.R_lit k32 _ 32 ?hg (N := 13) ?hd (xs := ([] : List (S32))) (inner := []) (ok := fun _ => True) (okp := fun _ => True) ?hr ?hp (fun _ hk => hk) trivial (Below.refl _ _) (Nat.le_refl _) (by simp) ?_; (case hd => rfl); (case hg => rfl); (case hr => first | (go_simp; done) | (go_simp; rfl)); (case hp => exact (Reps.none _ _)); intro v165 w6 ho7 hb hg_ hnew_; clear hg_ hnew_; (first | rw [← Ny164.out] at ho7 | (simp only [Int.reduceToNat] at ho7; rw [← Ny164.out] at ho7)); have n0_ := Aside0.mk (Kd.R_lower ho7 (keep_size (w := w) (g := g) (row := none) (by repeat (first | (with_reducible first | exact HK.out | apply KeepBut.set_ | apply keep_drewN | apply keep_drew | apply keep_alloc) | exact HK.out)))); have n1_ := Aside0.mk (IsS81.below (by repeat (first | (with_reducible first | exact HI0.out | apply IsS81.alloc | apply IsS81.drewN | apply IsS81.drew | apply IsS81.set_1) | exact HI0.out)) hb); have n2_ := Aside0.mk (KeepBut.trans (by repeat (first | (with_reducible first | exact HK.out | apply KeepBut.set_ | apply keep_drewN | apply keep_drew | apply keep_alloc) | exact HK.out)) (KeepBut.of_below hb g none) (.inl rfl)); have n3_ := Aside0.mk (below_step (by repeat (first | (with_reducible first | exact HB.out | apply below_alloc | apply pw_below_drewN | apply below_drew1 | refine below_set ?_ (IsS81.ge HI0.out)) | exact HB.out)) hb); clear HI0; clear HK; clear HB; have HO166 := n0_; have HI0 := n1_; have HK := n2_; have HB := n3_; clear n0_ n1_ n2_ n3_; clear hb ho7) | ((with_reducible refine gate_callee (f := 48) rfl ?_); refine goesL_ (some 15) rfl rfl Try.func48 (by kernel_rfl) rfl #[.pointer (some ⟨g, 0, none⟩), .int .i64 6] rfl (by (try simp only [List.map_toArray, List.map_cons, List.map_nil]); first | done | rfl | (simp only [List.length_drop, List.length_take]; rfl)) ?_; (with_reducible refine (spec_l6Rd_pick.calls k g s0_0 t163 6 t167 t168 w0 _ ?side1 ?side2 A4.out).mono ?_); (case side1 => repeat (first | (with_reducible first | exact HI0.out | apply IsS81.alloc | apply IsS81.drewN | apply IsS81.drew | apply IsS81.set_1) | exact HI0.out)); (case side2 => repeat (first | (with_reducible first | exact HB.out | apply below_alloc | apply pw_below_drewN | apply below_drew1 | refine below_set ?_ (IsS81.ge HI0.out)) | exact HB.out)); rintro e w8 ⟨rfl, hi, hb, hk⟩; refine ⟨_, rfl, ?_⟩; have n0_ := Aside0.mk (Kd.R_mono (Kd.R_keep (IsS81.apart (show IsS81 w0 _ g s0_0 t163 from by repeat (first | (with_reducible first | exact HI0.out | apply IsS81.alloc | apply IsS81.drewN | apply IsS81.drew | apply IsS81.set_1) | exact HI0.out)) (by (with_reducible repeat (first | apply Kd.R_alloc | apply Kd.R_drewN | apply Kd.R_drew)); exact HO166.out) (by decide)) hk (fun _ h => h.2)) (fun _ h => h.1)); have n1_ := Aside0.mk (KeepBut.trans (by repeat (first | (with_reducible first | exact HK.out | apply KeepBut.set_ | apply keep_drewN | apply keep_drew | apply keep_alloc) | exact HK.out)) hk (.inl rfl)); have n2_ := Aside0.mk (hb); have n3_ := Aside0.mk (hi); clear HO166; clear HK; clear HB; clear HI0; have HO166 := n0_; have HK := n1_; have HB := n2_; have HI0 := n3_; clear n0_ n1_ n2_ n3_; (try clear hb); (try clear hb2); (try clear hk); (try clear hi)))
    go_loopg [3, 5] k (fun kq v3 v5 w' => ∃ (x3_1 : List (S32)) (x5_1 : Int) (x1001_1 : Int), v5 = .int .i64 x5_1 ∧ Aside0 (spec_l92Poly.l0 kq x3_1 t167 x5_1 s0_0 x1001_1 = some (r1, r2)) ∧ Aside0 (kq ≤ k) ∧ Aside0 (Kd.R k32 32 w' w.heap.size (fun _ => True) v3 x3_1) ∧ Aside0 (IsS81 w0 w' g s0_0 x1001_1) ∧ Aside0 (KeepBut w w' g none) ∧ Aside0 (Below w0.heap.size w0 w'))
    case atStart => exact ⟨(y164), (0), (t168), (by first | rfl | (simp; done) | (simp [*]; done)), H', ⟨Nat.le_refl _⟩, ⟨by (with_reducible repeat (first | apply Kd.R_alloc | apply Kd.R_drewN | apply Kd.R_drew)); exact HO166.out⟩, ⟨by repeat (first | (with_reducible first | exact HI0.out | apply IsS81.alloc | apply IsS81.drewN | apply IsS81.drew | apply IsS81.set_1) | exact HI0.out)⟩, ⟨by repeat (first | (with_reducible first | exact HK.out | apply KeepBut.set_ | apply keep_drewN | apply keep_drew | apply keep_alloc) | exact HK.out)⟩, ⟨by repeat (first | (with_reducible first | exact HB.out | apply below_alloc | apply pw_below_drewN | apply below_drew1 | refine below_set ?_ (IsS81.ge HI0.out)) | exact HB.out)⟩⟩
    case round =>
      clear H'
      try clear p2
      try clear c3
      try clear c3b0
      try clear c3b1
      try clear c4
      obtain ⟨x3_1, x5_1, x1001_1, rfl, HA, HK1, HO_3, HI0, HK, HB⟩ := hrel
      cases gk with
      | zero => exact absurd HA.out (by simp [spec_l92Poly.l0])
      | succ k1 =>
        have H := HA.out
        clear HA
        simp only [spec_l92Poly.l0] at H
        by_cases c9 : x5_1 < t167
        · rw [if_pos c9] at H
          have c9b0 : decide (x5_1 < t167) = true := decide_eq_true c9
          clear c9
          replace H := Option.bind_eq_some_iff.mp H
          obtain ⟨⟨t169, t170, t171⟩, A100, H⟩ := H
          replace H : (if x3_1.length < 8796093022208 then (spec_l92Poly.l0 k1 (x3_1 ++ [(⟨t169, t170⟩ : S32)]) t167 (wrap64 (x5_1 + 1)) s0_0 t171) else (none)) = some (r1, r2) := H
          have A10 := Aside0.mk A100
          clear A100
          by_cases c11 : x3_1.length < 8796093022208
          · rw [if_pos c11] at H
            have LMc11 := Aside0.mk c11
            clear c11
            obtain ⟨y172, hy172⟩ : ∃ y_ : List (S32), y_ = (x3_1 ++ [(⟨t169, t170⟩ : S32)]) := ⟨_, rfl⟩
            replace H : (spec_l92Poly.l0 k1 y172 t167 (wrap64 (x5_1 + 1)) s0_0 t171) = some (r1, r2) := by first | (rw [hy172]; with_reducible exact H) | (have H2_ := (Option.bind_some _ _).symm.trans H; rw [hy172]; with_reducible exact H2_) | (have H2_ := (Option.bind_some _ _).symm.trans H; with_reducible exact H2_) | with_reducible exact H | (rw [hy172]; exact H) | exact H
            have Ny172 := Aside0.mk hy172
            clear hy172
            have H' := Aside0.mk H
            clear H
            go_wp2_with (first | ((with_reducible refine gate_callee (f := 55) rfl ?_); refine goesL_ (some 23) rfl rfl Try.func55 (by kernel_rfl) rfl #[.pointer (some ⟨g, 0, none⟩)] rfl (by (try simp only [List.map_toArray, List.map_cons, List.map_nil]); first | done | rfl | (simp only [List.length_drop, List.length_take]; rfl)) ?_; (with_reducible refine (spec_l91Point.calls k1 g s0_0 x1001_1 t169 t170 t171 w0 _ ?side1 ?side2 A10.out).mono ?_); (case side1 => repeat (first | (with_reducible first | exact HI0.out | apply IsS81.alloc | apply IsS81.drewN | apply IsS81.drew | apply IsS81.set_1) | exact HI0.out)); (case side2 => repeat (first | (with_reducible first | exact HB.out | apply below_alloc | apply pw_below_drewN | apply below_drew1 | refine below_set ?_ (IsS81.ge HI0.out)) | exact HB.out)); rintro e w12 ⟨rfl, hi, hb, hk⟩; refine ⟨_, rfl, ?_⟩; have n0_ := Aside0.mk (Kd.R_mono (Kd.R_keep (IsS81.apart (show IsS81 w0 _ g s0_0 x1001_1 from by repeat (first | (with_reducible first | exact HI0.out | apply IsS81.alloc | apply IsS81.drewN | apply IsS81.drew | apply IsS81.set_1) | exact HI0.out)) (by (with_reducible repeat (first | apply Kd.R_alloc | apply Kd.R_drewN | apply Kd.R_drew)); exact HO_3.out) (by decide)) hk (fun _ h => h.2)) (fun _ h => h.1)); have n1_ := Aside0.mk (KeepBut.trans (by repeat (first | (with_reducible first | exact HK.out | apply KeepBut.set_ | apply keep_drewN | apply keep_drew | apply keep_alloc) | exact HK.out)) hk (.inl rfl)); have n2_ := Aside0.mk (hb); have n3_ := Aside0.mk (hi); clear HO_3; clear HK; clear HB; clear HI0; have HO_3 := n0_; have HK := n1_; have HB := n2_; have HI0 := n3_; clear n0_ n1_ n2_ n3_; (try clear hb); (try clear hb2); (try clear hk); (try clear hi)) | ((with_reducible refine gate_builtin (b := .append) (xs := #[.tmp 21, .tmp 24]) rfl ?_); at_builtin; refine Kd.R_append k32 w.heap.size rfl (.tmp 21) (.tmp 24) 23 32 (.agg #[(.int .i64 0), (.int .i64 0)]) 16 rfl Try.underlying23 info32 rfl (by decide) (by omega) u3 x3_1 (⟨t169, t170⟩ : S32) [.int .i64 t169, .int .i64 t170] (fun _ => True) (fun _ => False) rfl rfl ?aP (fun _ hk => hk.elim) ?aF ?aO (Below.refl _ _) ?aS ?aL ?_; (case aP => exact k32_mkM _ _ _ (⟨t169, t170⟩ : S32)); (case aF => exact (fun _ _ => trivial)); (case aO => exact (by (with_reducible repeat (first | apply Kd.R_alloc | apply Kd.R_drewN | apply Kd.R_drew)); exact HO_3.out)); (case aS => exact (keep_size (w := w) (g := g) (row := none) (by repeat (first | (with_reducible first | exact HK.out | apply KeepBut.set_ | apply keep_drewN | apply keep_drew | apply keep_alloc) | exact HK.out)))); (case aL => have := LMc11.out; omega); intro v173 w13 ho hb hg hat; rw [← Ny172.out] at ho; have n0_ := Aside0.mk (IsS81.grown (by repeat (first | (with_reducible first | exact HI0.out | apply IsS81.alloc | apply IsS81.drewN | apply IsS81.drew | apply IsS81.set_1) | exact HI0.out)) hg (IsS81.own_ne HI0.out HO_3.out (by decide))); have n1_ := Aside0.mk (below_weaken (by repeat (first | (with_reducible first | exact HB.out | apply below_alloc | apply pw_below_drewN | apply below_drew1 | refine below_set ?_ (IsS81.ge HI0.out)) | exact HB.out)) HL.out hb); have n2_ := Aside0.mk (KeepBut.trans (by repeat (first | (with_reducible first | exact HK.out | apply KeepBut.set_ | apply keep_drewN | apply keep_drew | apply keep_alloc) | exact HK.out)) (KeepBut.of_grown hg g) (Kd.R_base2 HO_3.out)); have n3_ := Aside0.mk (ho); clear HI0; clear HB; clear HK; clear HO_3; have HI0 := n0_; have HB := n1_; have HK := n2_; have HO174 := n3_; clear n0_ n1_ n2_ n3_; clear ho hb hg hat))
            go_roundg k1
            case measure => have := HK1.out; omega
            case rel => exact ⟨(y172), (wrap64 (x5_1 + 1)), (t171), (by first | rfl | (simp; done) | (simp [*]; done)), H', ⟨by have := HK1.out; omega⟩, ⟨by (with_reducible repeat (first | apply Kd.R_alloc | apply Kd.R_drewN | apply Kd.R_drew)); exact HO174.out⟩, ⟨by repeat (first | (with_reducible first | exact HI0.out | apply IsS81.alloc | apply IsS81.drewN | apply IsS81.drew | apply IsS81.set_1) | exact HI0.out)⟩, ⟨by repeat (first | (with_reducible first | exact HK.out | apply KeepBut.set_ | apply keep_drewN | apply keep_drew | apply keep_alloc) | exact HK.out)⟩, ⟨by repeat (first | (with_reducible first | exact HB.out | apply below_alloc | apply pw_below_drewN | apply below_drew1 | refine below_set ?_ (IsS81.ge HI0.out)) | exact HB.out)⟩⟩
          · rw [if_neg c11] at H
            exact absurd H (by simp)
        · rw [if_neg c9] at H
          have c9b0 : decide (x5_1 < t167) = false := decide_eq_false c9
          clear c9
          simp only [Option.some.injEq, Prod.mk.injEq] at H
          obtain ⟨rfl, rfl⟩ := H
          go_wp2
          go_ret
          exact ⟨_, by first | rfl | (simp [errW_none, errW_some] <;> rfl) | (simp [*, errW_none, errW_some] <;> rfl), Kd.Q_of_R (by (with_reducible repeat (first | apply Kd.R_alloc | apply Kd.R_drewN | apply Kd.R_drew)); exact HO_3.out), by repeat (first | (with_reducible first | exact HI0.out | apply IsS81.alloc | apply IsS81.drewN | apply IsS81.drew | apply IsS81.set_1) | exact HI0.out), by repeat (first | (with_reducible first | exact HB.out | apply below_alloc | apply pw_below_drewN | apply below_drew1 | refine below_set ?_ (IsS81.ge HI0.out)) | exact HB.out), by repeat (first | (with_reducible first | exact HK.out | apply KeepBut.set_ | apply keep_drewN | apply keep_drew | apply keep_alloc) | exact HK.out)⟩
  · rw [if_neg c3] at H
    have c3b0 : (t162 == 0) = false := beq_eq_false_iff_ne.mpr c3
    have c3b1 : (t162 != 0) = true := bne_iff_ne.mpr c3
    by_cases c14 : t162 = 1
    · rw [if_pos c14] at H
      have c14b0 : (t162 == 1) = true := beq_iff_eq.mpr c14
      have c14b1 : (t162 != 1) = false := bne_eq_false_iff_eq.mpr c14
      clear c14
      replace H := Option.bind_eq_some_iff.mp H
      obtain ⟨⟨t175, t178⟩, A150, H⟩ := H
      replace H : (some (t175, t178)) = some (r1, r2) := H
      have A15 := Aside0.mk A150
      clear A150
      simp only [Option.some.injEq, Prod.mk.injEq] at H
      obtain ⟨rfl, rfl⟩ := H
      go_enter Try.func41, Try.ntmps41
      go_wp2_with (first | ((with_reducible refine gate_callee (f := 48) rfl ?_); refine goesL_ (some 10) rfl rfl Try.func48 (by kernel_rfl) rfl #[.pointer (some ⟨g, 0, none⟩), .int .i64 8] rfl (by (try simp only [List.map_toArray, List.map_cons, List.map_nil]); first | done | rfl | (simp only [List.length_drop, List.length_take]; rfl)) ?_; (with_reducible refine (spec_l6Rd_pick.calls k g s0_0 s0_1 8 t162 t163 w0 _ ?side1 ?side2 A2.out).mono ?_); (case side1 => repeat (first | (with_reducible first | exact HI0.out | apply IsS81.alloc | apply IsS81.drewN | apply IsS81.drew | apply IsS81.set_1) | exact HI0.out)); (case side2 => repeat (first | (with_reducible first | exact HB.out | apply below_alloc | apply pw_below_drewN | apply below_drew1 | refine below_set ?_ (IsS81.ge HI0.out)) | exact HB.out)); rintro e w16 ⟨rfl, hi, hb, hk⟩; refine ⟨_, rfl, ?_⟩; have n0_ := Aside0.mk (KeepBut.trans (by repeat (first | (with_reducible first | exact HK.out | apply KeepBut.set_ | apply keep_drewN | apply keep_drew | apply keep_alloc) | exact HK.out)) hk (.inl rfl)); have n1_ := Aside0.mk (hb); have n2_ := Aside0.mk (hi); clear HK; clear HB; clear HI0; have HK := n0_; have HB := n1_; have HI0 := n2_; clear n0_ n1_ n2_; (try clear hb); (try clear hb2); (try clear hk); (try clear hi)) | ((with_reducible refine gate_callee (f := 59) rfl ?_); refine goesL_ (some 32) rfl rfl Try.func59 (by kernel_rfl) rfl #[.pointer (some ⟨g, 0, none⟩)] rfl (by (try simp only [List.map_toArray, List.map_cons, List.map_nil]); first | done | rfl | (simp only [List.length_drop, List.length_take]; rfl)) ?_; (with_reducible refine (spec_l92Box.calls k g s0_0 t163 t175 t178 w0 _ ?side1 ?side2 A15.out).mono ?_); (case side1 => repeat (first | (with_reducible first | exact HI0.out | apply IsS81.alloc | apply IsS81.drewN | apply IsS81.drew | apply IsS81.set_1) | exact HI0.out)); (case side2 => repeat (first | (with_reducible first | exact HB.out | apply below_alloc | apply pw_below_drewN | apply below_drew1 | refine below_set ?_ (IsS81.ge HI0.out)) | exact HB.out)); rintro e w17 ⟨v176, rfl, ho0, hi, hb, hk⟩; refine ⟨_, rfl, ?_⟩; have n0_ := Aside0.mk (Kd.Q_lower ho0 (keep_size (w := w) (g := g) (row := none) (by repeat (first | (with_reducible first | exact HK.out | apply KeepBut.set_ | apply keep_drewN | apply keep_drew | apply keep_alloc) | exact HK.out)))); have n1_ := Aside0.mk (KeepBut.trans (by repeat (first | (with_reducible first | exact HK.out | apply KeepBut.set_ | apply keep_drewN | apply keep_drew | apply keep_alloc) | exact HK.out)) hk (.inl rfl)); have n2_ := Aside0.mk (hb); have n3_ := Aside0.mk (hi); clear HK; clear HB; clear HI0; have HO177 := n0_; have HK := n1_; have HB := n2_; have HI0 := n3_; clear n0_ n1_ n2_ n3_; (try clear hb); (try clear hb2); (try clear hk); (try clear hi); (try clear ho0)))
      go_ret
      exact ⟨_, by first | rfl | (simp [errW_none, errW_some] <;> rfl) | (simp [*, errW_none, errW_some] <;> rfl), by (with_reducible repeat (first | apply Kd.Q_alloc | apply Kd.Q_drewN | apply Kd.Q_drew)); exact HO177.out, by repeat (first | (with_reducible first | exact HI0.out | apply IsS81.alloc | apply IsS81.drewN | apply IsS81.drew | apply IsS81.set_1) | exact HI0.out), by repeat (first | (with_reducible first | exact HB.out | apply below_alloc | apply pw_below_drewN | apply below_drew1 | refine below_set ?_ (IsS81.ge HI0.out)) | exact HB.out), by repeat (first | (with_reducible first | exact HK.out | apply KeepBut.set_ | apply keep_drewN | apply keep_drew | apply keep_alloc) | exact HK.out)⟩
    · rw [if_neg c14] at H
      have c14b0 : (t162 == 1) = false := beq_eq_false_iff_ne.mpr c14
      have c14b1 : (t162 != 1) = true := bne_iff_ne.mpr c14
      by_cases c18 : t162 = 2
      · rw [if_pos c18] at H
        have c18b0 : (t162 == 2) = true := beq_iff_eq.mpr c18
        have c18b1 : (t162 != 2) = false := bne_eq_false_iff_eq.mpr c18
        clear c18
        replace H := Option.bind_eq_some_iff.mp H
        obtain ⟨⟨t179, t182⟩, A190, H⟩ := H
        replace H : (some (t179, t182)) = some (r1, r2) := H
        have A19 := Aside0.mk A190
        clear A190
        simp only [Option.some.injEq, Prod.mk.injEq] at H
        obtain ⟨rfl, rfl⟩ := H
        go_enter Try.func41, Try.ntmps41
        go_wp2_with (first | ((with_reducible refine gate_callee (f := 48) rfl ?_); refine goesL_ (some 10) rfl rfl Try.func48 (by kernel_rfl) rfl #[.pointer (some ⟨g, 0, none⟩), .int .i64 8] rfl (by (try simp only [List.map_toArray, List.map_cons, List.map_nil]); first | done | rfl | (simp only [List.length_drop, List.length_take]; rfl)) ?_; (with_reducible refine (spec_l6Rd_pick.calls k g s0_0 s0_1 8 t162 t163 w0 _ ?side1 ?side2 A2.out).mono ?_); (case side1 => repeat (first | (with_reducible first | exact HI0.out | apply IsS81.alloc | apply IsS81.drewN | apply IsS81.drew | apply IsS81.set_1) | exact HI0.out)); (case side2 => repeat (first | (with_reducible first | exact HB.out | apply below_alloc | apply pw_below_drewN | apply below_drew1 | refine below_set ?_ (IsS81.ge HI0.out)) | exact HB.out)); rintro e w20 ⟨rfl, hi, hb, hk⟩; refine ⟨_, rfl, ?_⟩; have n0_ := Aside0.mk (KeepBut.trans (by repeat (first | (with_reducible first | exact HK.out | apply KeepBut.set_ | apply keep_drewN | apply keep_drew | apply keep_alloc) | exact HK.out)) hk (.inl rfl)); have n1_ := Aside0.mk (hb); have n2_ := Aside0.mk (hi); clear HK; clear HB; clear HI0; have HK := n0_; have HB := n1_; have HI0 := n2_; clear n0_ n1_ n2_; (try clear hb); (try clear hb2); (try clear hk); (try clear hi)) | ((with_reducible refine gate_callee (f := 59) rfl ?_); refine goesL_ (some 32) rfl rfl Try.func59 (by kernel_rfl) rfl #[.pointer (some ⟨g, 0, none⟩)] rfl (by (try simp only [List.map_toArray, List.map_cons, List.map_nil]); first | done | rfl | (simp only [List.length_drop, List.length_take]; rfl)) ?_; (with_reducible refine (spec_l92Box.calls k g s0_0 t163 t179 t182 w0 _ ?side1 ?side2 A19.out).mono ?_); (case side1 => repeat (first | (with_reducible first | exact HI0.out | apply IsS81.alloc | apply IsS81.drewN | apply IsS81.drew | apply IsS81.set_1) | exact HI0.out)); (case side2 => repeat (first | (with_reducible first | exact HB.out | apply below_alloc | apply pw_below_drewN | apply below_drew1 | refine below_set ?_ (IsS81.ge HI0.out)) | exact HB.out)); rintro e w21 ⟨v180, rfl, ho0, hi, hb, hk⟩; refine ⟨_, rfl, ?_⟩; have n0_ := Aside0.mk (Kd.Q_lower ho0 (keep_size (w := w) (g := g) (row := none) (by repeat (first | (with_reducible first | exact HK.out | apply KeepBut.set_ | apply keep_drewN | apply keep_drew | apply keep_alloc) | exact HK.out)))); have n1_ := Aside0.mk (KeepBut.trans (by repeat (first | (with_reducible first | exact HK.out | apply KeepBut.set_ | apply keep_drewN | apply keep_drew | apply keep_alloc) | exact HK.out)) hk (.inl rfl)); have n2_ := Aside0.mk (hb); have n3_ := Aside0.mk (hi); clear HK; clear HB; clear HI0; have HO181 := n0_; have HK := n1_; have HB := n2_; have HI0 := n3_; clear n0_ n1_ n2_ n3_; (try clear hb); (try clear hb2); (try clear hk); (try clear hi); (try clear ho0)))
        go_ret
        exact ⟨_, by first | rfl | (simp [errW_none, errW_some] <;> rfl) | (simp [*, errW_none, errW_some] <;> rfl), by (with_reducible repeat (first | apply Kd.Q_alloc | apply Kd.Q_drewN | apply Kd.Q_drew)); exact HO181.out, by repeat (first | (with_reducible first | exact HI0.out | apply IsS81.alloc | apply IsS81.drewN | apply IsS81.drew | apply IsS81.set_1) | exact HI0.out), by repeat (first | (with_reducible first | exact HB.out | apply below_alloc | apply pw_below_drewN | apply below_drew1 | refine below_set ?_ (IsS81.ge HI0.out)) | exact HB.out), by repeat (first | (with_reducible first | exact HK.out | apply KeepBut.set_ | apply keep_drewN | apply keep_drew | apply keep_alloc) | exact HK.out)⟩
      · rw [if_neg c18] at H
        have c18b0 : (t162 == 2) = false := beq_eq_false_iff_ne.mpr c18
        have c18b1 : (t162 != 2) = true := bne_iff_ne.mpr c18
        by_cases c22 : t162 = 3
        · rw [if_pos c22] at H
          have c22b0 : (t162 == 3) = true := beq_iff_eq.mpr c22
          have c22b1 : (t162 != 3) = false := bne_eq_false_iff_eq.mpr c22
          clear c22
          replace H := Option.bind_eq_some_iff.mp H
          obtain ⟨⟨t183, t186⟩, A230, H⟩ := H
          replace H : (some (t183, t186)) = some (r1, r2) := H
          have A23 := Aside0.mk A230
          clear A230
          simp only [Option.some.injEq, Prod.mk.injEq] at H
          obtain ⟨rfl, rfl⟩ := H
          go_enter Try.func41, Try.ntmps41
          go_wp2_with (first | ((with_reducible refine gate_callee (f := 48) rfl ?_); refine goesL_ (some 10) rfl rfl Try.func48 (by kernel_rfl) rfl #[.pointer (some ⟨g, 0, none⟩), .int .i64 8] rfl (by (try simp only [List.map_toArray, List.map_cons, List.map_nil]); first | done | rfl | (simp only [List.length_drop, List.length_take]; rfl)) ?_; (with_reducible refine (spec_l6Rd_pick.calls k g s0_0 s0_1 8 t162 t163 w0 _ ?side1 ?side2 A2.out).mono ?_); (case side1 => repeat (first | (with_reducible first | exact HI0.out | apply IsS81.alloc | apply IsS81.drewN | apply IsS81.drew | apply IsS81.set_1) | exact HI0.out)); (case side2 => repeat (first | (with_reducible first | exact HB.out | apply below_alloc | apply pw_below_drewN | apply below_drew1 | refine below_set ?_ (IsS81.ge HI0.out)) | exact HB.out)); rintro e w24 ⟨rfl, hi, hb, hk⟩; refine ⟨_, rfl, ?_⟩; have n0_ := Aside0.mk (KeepBut.trans (by repeat (first | (with_reducible first | exact HK.out | apply KeepBut.set_ | apply keep_drewN | apply keep_drew | apply keep_alloc) | exact HK.out)) hk (.inl rfl)); have n1_ := Aside0.mk (hb); have n2_ := Aside0.mk (hi); clear HK; clear HB; clear HI0; have HK := n0_; have HB := n1_; have HI0 := n2_; clear n0_ n1_ n2_; (try clear hb); (try clear hb2); (try clear hk); (try clear hi)) | ((with_reducible refine gate_callee (f := 59) rfl ?_); refine goesL_ (some 32) rfl rfl Try.func59 (by kernel_rfl) rfl #[.pointer (some ⟨g, 0, none⟩)] rfl (by (try simp only [List.map_toArray, List.map_cons, List.map_nil]); first | done | rfl | (simp only [List.length_drop, List.length_take]; rfl)) ?_; (with_reducible refine (spec_l92Box.calls k g s0_0 t163 t183 t186 w0 _ ?side1 ?side2 A23.out).mono ?_); (case side1 => repeat (first | (with_reducible first | exact HI0.out | apply IsS81.alloc | apply IsS81.drewN | apply IsS81.drew | apply IsS81.set_1) | exact HI0.out)); (case side2 => repeat (first | (with_reducible first | exact HB.out | apply below_alloc | apply pw_below_drewN | apply below_drew1 | refine below_set ?_ (IsS81.ge HI0.out)) | exact HB.out)); rintro e w25 ⟨v184, rfl, ho0, hi, hb, hk⟩; refine ⟨_, rfl, ?_⟩; have n0_ := Aside0.mk (Kd.Q_lower ho0 (keep_size (w := w) (g := g) (row := none) (by repeat (first | (with_reducible first | exact HK.out | apply KeepBut.set_ | apply keep_drewN | apply keep_drew | apply keep_alloc) | exact HK.out)))); have n1_ := Aside0.mk (KeepBut.trans (by repeat (first | (with_reducible first | exact HK.out | apply KeepBut.set_ | apply keep_drewN | apply keep_drew | apply keep_alloc) | exact HK.out)) hk (.inl rfl)); have n2_ := Aside0.mk (hb); have n3_ := Aside0.mk (hi); clear HK; clear HB; clear HI0; have HO185 := n0_; have HK := n1_; have HB := n2_; have HI0 := n3_; clear n0_ n1_ n2_ n3_; (try clear hb); (try clear hb2); (try clear hk); (try clear hi); (try clear ho0)))
          go_ret
          exact ⟨_, by first | rfl | (simp [errW_none, errW_some] <;> rfl) | (simp [*, errW_none, errW_some] <;> rfl), by (with_reducible repeat (first | apply Kd.Q_alloc | apply Kd.Q_drewN | apply Kd.Q_drew)); exact HO185.out, by repeat (first | (with_reducible first | exact HI0.out | apply IsS81.alloc | apply IsS81.drewN | apply IsS81.drew | apply IsS81.set_1) | exact HI0.out), by repeat (first | (with_reducible first | exact HB.out | apply below_alloc | apply pw_below_drewN | apply below_drew1 | refine below_set ?_ (IsS81.ge HI0.out)) | exact HB.out), by repeat (first | (with_reducible first | exact HK.out | apply KeepBut.set_ | apply keep_drewN | apply keep_drew | apply keep_alloc) | exact HK.out)⟩
        · rw [if_neg c22] at H
          have c22b0 : (t162 == 3) = false := beq_eq_false_iff_ne.mpr c22
          have c22b1 : (t162 != 3) = true := bne_iff_ne.mpr c22
          replace H := Option.bind_eq_some_iff.mp H
          obtain ⟨⟨t187, t190⟩, A260, H⟩ := H
          replace H : ((spec_l6Rd_pick.f k s0_0 t190 5).bind fun bt191 => (if bt191.1 = 0 then ((spec_PolyBack.f k t187).bind fun bt193 => (some (bt193.1, bt191.2))) else (some (t187, bt191.2)))) = some (r1, r2) := H
          have A26 := Aside0.mk A260
          clear A260
          replace H := Option.bind_eq_some_iff.mp H
          obtain ⟨⟨t191, t192⟩, A270, H⟩ := H
          replace H : (if t191 = 0 then ((spec_PolyBack.f k t187).bind fun bt193 => (some (bt193.1, t192))) else (some (t187, t192))) = some (r1, r2) := H
          have A27 := Aside0.mk A270
          clear A270
          by_cases c28 : t191 = 0
          · rw [if_pos c28] at H
            have c28b0 : (t191 == 0) = true := beq_iff_eq.mpr c28
            have c28b1 : (t191 != 0) = false := bne_eq_false_iff_eq.mpr c28
            clear c28
            replace H := Option.bind_eq_some_iff.mp H
            obtain ⟨⟨t193, t194⟩, A290, H⟩ := H
            replace H : (some (t193, t192)) = some (r1, r2) := H
            have A29 := Aside0.mk A290
            clear A290
            simp only [Option.some.injEq, Prod.mk.injEq] at H
            obtain ⟨rfl, rfl⟩ := H
            go_enter Try.func41, Try.ntmps41
            go_wp2_with (first | ((with_reducible refine gate_callee (f := 48) rfl ?_); refine goesL_ (some 10) rfl rfl Try.func48 (by kernel_rfl) rfl #[.pointer (some ⟨g, 0, none⟩), .int .i64 8] rfl (by (try simp only [List.map_toArray, List.map_cons, List.map_nil]); first | done | rfl | (simp only [List.length_drop, List.length_take]; rfl)) ?_; (with_reducible refine (spec_l6Rd_pick.calls k g s0_0 s0_1 8 t162 t163 w0 _ ?side1 ?side2 A2.out).mono ?_); (case side1 => repeat (first | (with_reducible first | exact HI0.out | apply IsS81.alloc | apply IsS81.drewN | apply IsS81.drew | apply IsS81.set_1) | exact HI0.out)); (case side2 => repeat (first | (with_reducible first | exact HB.out | apply below_alloc | apply pw_below_drewN | apply below_drew1 | refine below_set ?_ (IsS81.ge HI0.out)) | exact HB.out)); rintro e w30 ⟨rfl, hi, hb, hk⟩; refine ⟨_, rfl, ?_⟩; have n0_ := Aside0.mk (KeepBut.trans (by repeat (first | (with_reducible first | exact HK.out | apply KeepBut.set_ | apply keep_drewN | apply keep_drew | apply keep_alloc) | exact HK.out)) hk (.inl rfl)); have n1_ := Aside0.mk (hb); have n2_ := Aside0.mk (hi); clear HK; clear HB; clear HI0; have HK := n0_; have HB := n1_; have HI0 := n2_; clear n0_ n1_ n2_; (try clear hb); (try clear hb2); (try clear hk); (try clear hi)) | ((with_reducible refine gate_callee (f := 72) rfl ?_); refine goesL_ (some 34) rfl rfl Try.func72 (by kernel_rfl) rfl #[.pointer (some ⟨g, 0, none⟩)] rfl (by (try simp only [List.map_toArray, List.map_cons, List.map_nil]); first | done | rfl | (simp only [List.length_drop, List.length_take]; rfl)) ?_; (with_reducible refine (spec_l92Star.calls k g s0_0 t163 t187 t190 w0 _ ?side1 ?side2 A26.out).mono ?_); (case side1 => repeat (first | (with_reducible first | exact HI0.out | apply IsS81.alloc | apply IsS81.drewN | apply IsS81.drew | apply IsS81.set_1) | exact HI0.out)); (case side2 => repeat (first | (with_reducible first | exact HB.out | apply below_alloc | apply pw_below_drewN | apply below_drew1 | refine below_set ?_ (IsS81.ge HI0.out)) | exact HB.out)); rintro e w31 ⟨v188, rfl, ho0, hi, hb, hk⟩; refine ⟨_, rfl, ?_⟩; have n0_ := Aside0.mk (Kd.R_lower ho0 (keep_size (w := w) (g := g) (row := none) (by repeat (first | (with_reducible first | exact HK.out | apply KeepBut.set_ | apply keep_drewN | apply keep_drew | apply keep_alloc) | exact HK.out)))); have n1_ := Aside0.mk (KeepBut.trans (by repeat (first | (with_reducible first | exact HK.out | apply KeepBut.set_ | apply keep_drewN | apply keep_drew | apply keep_alloc) | exact HK.out)) hk (.inl rfl)); have n2_ := Aside0.mk (hb); have n3_ := Aside0.mk (hi); clear HK; clear HB; clear HI0; have HO189 := n0_; have HK := n1_; have HB := n2_; have HI0 := n3_; clear n0_ n1_ n2_ n3_; (try clear hb); (try clear hb2); (try clear hk); (try clear hi); (try clear ho0)) | ((with_reducible refine gate_callee (f := 48) rfl ?_); refine goesL_ (some 36) rfl rfl Try.func48 (by kernel_rfl) rfl #[.pointer (some ⟨g, 0, none⟩), .int .i64 5] rfl (by (try simp only [List.map_toArray, List.map_cons, List.map_nil]); first | done | rfl | (simp only [List.length_drop, List.length_take]; rfl)) ?_; (with_reducible refine (spec_l6Rd_pick.calls k g s0_0 t190 5 t191 t192 w0 _ ?side1 ?side2 A27.out).mono ?_); (case side1 => repeat (first | (with_reducible first | exact HI0.out | apply IsS81.alloc | apply IsS81.drewN | apply IsS81.drew | apply IsS81.set_1) | exact HI0.out)); (case side2 => repeat (first | (with_reducible first | exact HB.out | apply below_alloc | apply pw_below_drewN | apply below_drew1 | refine below_set ?_ (IsS81.ge HI0.out)) | exact HB.out)); rintro e w32 ⟨rfl, hi, hb, hk⟩; refine ⟨_, rfl, ?_⟩; have n0_ := Aside0.mk (Kd.R_mono (Kd.R_keep (IsS81.apart (show IsS81 w0 _ g s0_0 t190 from by repeat (first | (with_reducible first | exact HI0.out | apply IsS81.alloc | apply IsS81.drewN | apply IsS81.drew | apply IsS81.set_1) | exact HI0.out)) (by (with_reducible repeat (first | apply Kd.R_alloc | apply Kd.R_drewN | apply Kd.R_drew)); exact HO189.out) (by decide)) hk (fun _ h => h.2)) (fun _ h => h.1)); have n1_ := Aside0.mk (KeepBut.trans (by repeat (first | (with_reducible first | exact HK.out | apply KeepBut.set_ | apply keep_drewN | apply keep_drew | apply keep_alloc) | exact HK.out)) hk (.inl rfl)); have n2_ := Aside0.mk (hb); have n3_ := Aside0.mk (hi); clear HO189; clear HK; clear HB; clear HI0; have HO189 := n0_; have HK := n1_; have HB := n2_; have HI0 := n3_; clear n0_ n1_ n2_ n3_; (try clear hb); (try clear hb2); (try clear hk); (try clear hi); obtain ⟨Ao33, co33, eo33⟩ := Kd.R_slice HO189.out; subst eo33) | ((with_reducible refine gate_callee (f := 73) rfl ?_); refine goesL_ (some 40) rfl rfl Try.func73 (by kernel_rfl) rfl #[.slice Ao33 t187.length co33] rfl (by (try simp only [List.map_toArray, List.map_cons, List.map_nil]); first | done | rfl | (simp only [List.length_drop, List.length_take]; rfl)) ?_; (with_reducible refine (spec_PolyBack.calls k _ _ t187 t193 t194 _ ?side1 ?side2 A29.out).mono ?_); (case side1 => repeat (first | exact (Kd.R_reads' HO189.out).2.2 | (with_reducible refine Kd.C_alloc ?_ _) | (with_reducible refine Kd.C_drewN ?_ _) | (with_reducible refine Kd.C_drew ?_))); (case side2 => exact (Kd.R_reads' HO189.out).2.1); rintro e w34 ⟨v195, rfl, ho0, hb⟩; refine ⟨_, rfl, ?_⟩; have n0_ := Aside0.mk (Kd.R_elder' (by (with_reducible repeat (first | apply Kd.R_alloc | apply Kd.R_drewN | apply Kd.R_drew)); exact HO189.out) (Kd.R_base ho0) hb); have n1_ := Aside0.mk (Kd.R_lower (Kd.R_new' ho0 (Kd.R_lt (by (with_reducible repeat (first | apply Kd.R_alloc | apply Kd.R_drewN | apply Kd.R_drew)); exact HO189.out))) (keep_size (w := w) (g := g) (row := none) (by repeat (first | (with_reducible first | exact HK.out | apply KeepBut.set_ | apply keep_drewN | apply keep_drew | apply keep_alloc) | exact HK.out)))); have n2_ := Aside0.mk (IsS81.below (by repeat (first | (with_reducible first | exact HI0.out | apply IsS81.alloc | apply IsS81.drewN | apply IsS81.drew | apply IsS81.set_1) | exact HI0.out)) hb); have n3_ := Aside0.mk (KeepBut.trans (by repeat (first | (with_reducible first | exact HK.out | apply KeepBut.set_ | apply keep_drewN | apply keep_drew | apply keep_alloc) | exact HK.out)) (KeepBut.of_below hb g none) (.inl rfl)); have n4_ := Aside0.mk (below_step (by repeat (first | (with_reducible first | exact HB.out | apply below_alloc | apply pw_below_drewN | apply below_drew1 | refine below_set ?_ (IsS81.ge HI0.out)) | exact HB.out)) hb); clear HO189; clear HI0; clear HK; clear HB; have HO189 := n0_; have HO196 := n1_; have HI0 := n2_; have HK := n3_; have HB := n4_; clear n0_ n1_ n2_ n3_ n4_; (try clear hb); (try clear hb2); (try clear hk); (try clear hi); (try clear ho0)))
            go_ret
            exact ⟨_, by first | rfl | (simp [errW_none, errW_some] <;> rfl) | (simp [*, errW_none, errW_some] <;> rfl), Kd.Q_of_R (by (with_reducible repeat (first | apply Kd.R_alloc | apply Kd.R_drewN | apply Kd.R_drew)); exact Kd.R_mono HO196.out (fun _ hk => trivial)), by repeat (first | (with_reducible first | exact HI0.out | apply IsS81.alloc | apply IsS81.drewN | apply IsS81.drew | apply IsS81.set_1) | exact HI0.out), by repeat (first | (with_reducible first | exact HB.out | apply below_alloc | apply pw_below_drewN | apply below_drew1 | refine below_set ?_ (IsS81.ge HI0.out)) | exact HB.out), by repeat (first | (with_reducible first | exact HK.out | apply KeepBut.set_ | apply keep_drewN | apply keep_drew | apply keep_alloc) | exact HK.out)⟩
          · rw [if_neg c28] at H
            have c28b0 : (t191 == 0) = false := beq_eq_false_iff_ne.mpr c28
            have c28b1 : (t191 != 0) = true := bne_iff_ne.mpr c28
            simp only [Option.some.injEq, Prod.mk.injEq] at H
            obtain ⟨rfl, rfl⟩ := H
            go_enter Try.func41, Try.ntmps41
            go_wp2_with (first | ((with_reducible refine gate_callee (f := 48) rfl ?_); refine goesL_ (some 10) rfl rfl Try.func48 (by kernel_rfl) rfl #[.pointer (some ⟨g, 0, none⟩), .int .i64 8] rfl (by (try simp only [List.map_toArray, List.map_cons, List.map_nil]); first | done | rfl | (simp only [List.length_drop, List.length_take]; rfl)) ?_; (with_reducible refine (spec_l6Rd_pick.calls k g s0_0 s0_1 8 t162 t163 w0 _ ?side1 ?side2 A2.out).mono ?_); (case side1 => repeat (first | (with_reducible first | exact HI0.out | apply IsS81.alloc | apply IsS81.drewN | apply IsS81.drew | apply IsS81.set_1) | exact HI0.out)); (case side2 => repeat (first | (with_reducible first | exact HB.out | apply below_alloc | apply pw_below_drewN | apply below_drew1 | refine below_set ?_ (IsS81.ge HI0.out)) | exact HB.out)); rintro e w35 ⟨rfl, hi, hb, hk⟩; refine ⟨_, rfl, ?_⟩; have n0_ := Aside0.mk (KeepBut.trans (by repeat (first | (with_reducible first | exact HK.out | apply KeepBut.set_ | apply keep_drewN | apply keep_drew | apply keep_alloc) | exact HK.out)) hk (.inl rfl)); have n1_ := Aside0.mk (hb); have n2_ := Aside0.mk (hi); clear HK; clear HB; clear HI0; have HK := n0_; have HB := n1_; have HI0 := n2_; clear n0_ n1_ n2_; (try clear hb); (try clear hb2); (try clear hk); (try clear hi)) | ((with_reducible refine gate_callee (f := 72) rfl ?_); refine goesL_ (some 34) rfl rfl Try.func72 (by kernel_rfl) rfl #[.pointer (some ⟨g, 0, none⟩)] rfl (by (try simp only [List.map_toArray, List.map_cons, List.map_nil]); first | done | rfl | (simp only [List.length_drop, List.length_take]; rfl)) ?_; (with_reducible refine (spec_l92Star.calls k g s0_0 t163 t187 t190 w0 _ ?side1 ?side2 A26.out).mono ?_); (case side1 => repeat (first | (with_reducible first | exact HI0.out | apply IsS81.alloc | apply IsS81.drewN | apply IsS81.drew | apply IsS81.set_1) | exact HI0.out)); (case side2 => repeat (first | (with_reducible first | exact HB.out | apply below_alloc | apply pw_below_drewN | apply below_drew1 | refine below_set ?_ (IsS81.ge HI0.out)) | exact HB.out)); rintro e w36 ⟨v188, rfl, ho0, hi, hb, hk⟩; refine ⟨_, rfl, ?_⟩; have n0_ := Aside0.mk (Kd.R_lower ho0 (keep_size (w := w) (g := g) (row := none) (by repeat (first | (with_reducible first | exact HK.out | apply KeepBut.set_ | apply keep_drewN | apply keep_drew | apply keep_alloc) | exact HK.out)))); have n1_ := Aside0.mk (KeepBut.trans (by repeat (first | (with_reducible first | exact HK.out | apply KeepBut.set_ | apply keep_drewN | apply keep_drew | apply keep_alloc) | exact HK.out)) hk (.inl rfl)); have n2_ := Aside0.mk (hb); have n3_ := Aside0.mk (hi); clear HK; clear HB; clear HI0; have HO189 := n0_; have HK := n1_; have HB := n2_; have HI0 := n3_; clear n0_ n1_ n2_ n3_; (try clear hb); (try clear hb2); (try clear hk); (try clear hi); (try clear ho0)) | ((with_reducible refine gate_callee (f := 48) rfl ?_); refine goesL_ (some 36) rfl rfl Try.func48 (by kernel_rfl) rfl #[.pointer (some ⟨g, 0, none⟩), .int .i64 5] rfl (by (try simp only [List.map_toArray, List.map_cons, List.map_nil]); first | done | rfl | (simp only [List.length_drop, List.length_take]; rfl)) ?_; (with_reducible refine (spec_l6Rd_pick.calls k g s0_0 t190 5 t191 t192 w0 _ ?side1 ?side2 A27.out).mono ?_); (case side1 => repeat (first | (with_reducible first | exact HI0.out | apply IsS81.alloc | apply IsS81.drewN | apply IsS81.drew | apply IsS81.set_1) | exact HI0.out)); (case side2 => repeat (first | (with_reducible first | exact HB.out | apply below_alloc | apply pw_below_drewN | apply below_drew1 | refine below_set ?_ (IsS81.ge HI0.out)) | exact HB.out)); rintro e w37 ⟨rfl, hi, hb, hk⟩; refine ⟨_, rfl, ?_⟩; have n0_ := Aside0.mk (Kd.R_mono (Kd.R_keep (IsS81.apart (show IsS81 w0 _ g s0_0 t190 from by repeat (first | (with_reducible first | exact HI0.out | apply IsS81.alloc | apply IsS81.drewN | apply IsS81.drew | apply IsS81.set_1) | exact HI0.out)) (by (with_reducible repeat (first | apply Kd.R_alloc | apply Kd.R_drewN | apply Kd.R_drew)); exact HO189.out) (by decide)) hk (fun _ h => h.2)) (fun _ h => h.1)); have n1_ := Aside0.mk (KeepBut.trans (by repeat (first | (with_reducible first | exact HK.out | apply KeepBut.set_ | apply keep_drewN | apply keep_drew | apply keep_alloc) | exact HK.out)) hk (.inl rfl)); have n2_ := Aside0.mk (hb); have n3_ := Aside0.mk (hi); clear HO189; clear HK; clear HB; clear HI0; have HO189 := n0_; have HK := n1_; have HB := n2_; have HI0 := n3_; clear n0_ n1_ n2_ n3_; (try clear hb); (try clear hb2); (try clear hk); (try clear hi)))
            go_ret
            exact ⟨_, by first | rfl | (simp [errW_none, errW_some] <;> rfl) | (simp [*, errW_none, errW_some] <;> rfl), Kd.Q_of_R (by (with_reducible repeat (first | apply Kd.R_alloc | apply Kd.R_drewN | apply Kd.R_drew)); exact HO189.out), by repeat (first | (with_reducible first | exact HI0.out | apply IsS81.alloc | apply IsS81.drewN | apply IsS81.drew | apply IsS81.set_1) | exact HI0.out), by repeat (first | (with_reducible first | exact HB.out | apply below_alloc | apply pw_below_drewN | apply below_drew1 | refine below_set ?_ (IsS81.ge HI0.out)) | exact HB.out), by repeat (first | (with_reducible first | exact HK.out | apply KeepBut.set_ | apply keep_drewN | apply keep_drew | apply keep_alloc) | exact HK.out)⟩

end Go.Proofs.Ytgdhgncdpmalcaa.Q
namespace Go.Proofs.Ytgdhgncdpmalcaa.Q
open Go.RowKit Go.Proofs.YtgdhgncdpmalcaaW.PrintWords Go.Proofs.YtgdhgncdpmalcaaW.PrintLast Go.Proofs.YtgdhgncdpmalcaaW.PrintMore
attribute [local go_sem] max2_int min2_int max_two min_two max_three min_three max_four min_four   -- for this text's walks alone
set_option linter.unusedVariables false
set_option linter.unusedSimpArgs false

/-! ### spec_l6Open: function 42 -/
def spec_l6Open.f (l0 : List Int) : Option (List Int × Int) := if (l0.length : Int) > 2000 then (if 2000 ≤ (l0.length : Int) then (some (l0.take 2000, 0)) else (none)) else (some (l0, 0))
set_option maxHeartbeats 8000000 in
set_option maxRecDepth 100000 in
theorem spec_l6Open.calls (A0 : Option Addr) (c0 : Nat) (l0 : List Int) (r1 : List Int) (r2 : Int) (w0 w : World) (hB : Below w0.heap.size w0 w) (hr0 : Kd.C (Kd.int .u8) w0 A0 l0.length l0) (hc0 : l0.length ≤ c0) (h : spec_l6Open.f l0 = some (r1, r2)) :
    Calls Try.prog 42 #[.slice A0 l0.length c0] w fun e w' => ∃ g_ : Nat, e = .returned (.pointer (some ⟨g_, 0, none⟩)) ∧ IsS81 w0 w' g_ r1 r2 ∧ Below w0.heap.size w0 w' ∧ Below w.heap.size w w' := by
  have hu81 := Try.underlying81
  have HR0 := Aside0.mk hr0
  have HC0 := Aside0.mk hc0
  clear hr0 hc0
  have HBW := Aside0.mk (Below.refl w.heap.size w)
  have HW0 := Aside0.mk hB.size
  have HB := Aside0.mk hB
  clear hB
  have H : (if (l0.length : Int) > 2000 then (if 2000 ≤ (l0.length : Int) then (some (l0.take 2000, 0)) else (none)) else (some (l0, 0))) = some (r1, r2) := h
  clear h
  by_cases c2 : (l0.length : Int) > 2000
  · rw [if_pos c2] at H
    have c2b0 : decide (2000 < (l0.length : Int)) = true := decide_eq_true c2
    have c2b1 : decide (2000 < l0.length) = true := decide_eq_true (by omega)
    clear c2
    by_cases c3 : 2000 ≤ (l0.length : Int)
    · rw [if_pos c3] at H
      have c3b0 := eq_true c3
      have c3b1 : decide (2000 ≤ (l0.length : Int)) = true := decide_eq_true c3
      clear c3
      simp only [Option.some.injEq, Prod.mk.injEq] at H
      obtain ⟨rfl, rfl⟩ := H
      obtain ⟨i04, hi04, _, hsz4, _⟩ := info_parts info5
      obtain ⟨hcut4, hA4, hC4⟩ := print_take_of (P := Try.prog) (Value.int .u8) 0 22 5 .i64 Try.underlying22 hi04 hsz4 A0 c0 l0 2000 (by omega) (of_decide_eq_true (by first | (with_reducible assumption) | assumption)) HC0.out
      have HR197 := Aside0.mk (Kd.C_of_reads (h1 := fun _ => rfl) (hA4 _ (Kd.reads_of_C HR0.out)))
      have HC197 := Aside0.mk hC4
      clear hA4 hC4 hi04 hsz4
      go_enter Try.func42, Try.ntmps42
      go_wp2_with (first | ((with_reducible refine gate_dst (N := 10) rfl ?_); refine box_event ?hg (N := 10) ?hd (cs := #[.slice A0 (l0.take 2000).length c0, .int .i64 0]) (t := 81) ?hr ?_; (case hd => rfl); (case hg => rfl); (case hr => first | (go_simp; done) | (go_simp; rfl)); intro gb198 hg w5 hbox hb; have n0_ := Aside0.mk (below_step HBW.out hb); have n1_ := Aside0.mk (below_step (by repeat (first | (with_reducible first | exact HB.out | apply below_alloc | apply pw_below_drewN | apply below_drew1) | exact HB.out)) hb); have n2_ := Aside0.mk (hbox); have n3_ := Aside0.mk ((by rw [hg]; exact (below_size (by repeat (first | (with_reducible first | exact HBW.out | apply below_alloc | apply pw_below_drewN | apply below_drew1) | exact HBW.out))) : w.heap.size ≤ gb198)); have n4_ := Aside0.mk ((Nat.le_trans HW0.out (by rw [hg]; exact (below_size (by repeat (first | (with_reducible first | exact HBW.out | apply below_alloc | apply pw_below_drewN | apply below_drew1) | exact HBW.out))) : w.heap.size ≤ gb198) : w0.heap.size ≤ gb198)); clear HBW; clear HB; have HBW := n0_; have HB := n1_; have BK198 := n2_; have GW198 := n3_; have GE198 := n4_; clear n0_ n1_ n2_ n3_ n4_; clear hb hbox hg))
      go_ret
      exact ⟨_, rfl, (show IsS81 w0 _ gb198 (l0.take 2000) 0 from ⟨_, _, by (with_reducible repeat (first | refine blk_drewN ?_ _ | refine blk_drew ?_ | refine blk_alloc ?_ _)); exact BK198.out, GE198.out, HR197.out⟩), by repeat (first | (with_reducible first | exact HB.out | apply below_alloc | apply pw_below_drewN | apply below_drew1 | refine below_set ?_ GE198.out) | exact HB.out), by repeat (first | (with_reducible first | exact HBW.out | apply below_alloc | apply pw_below_drewN | apply below_drew1 | refine below_set ?_ GW198.out) | exact HBW.out)⟩
    · rw [if_neg c3] at H
      exact absurd H (by simp)
  · rw [if_neg c2] at H
    have c2b0 : decide (2000 < (l0.length : Int)) = false := decide_eq_false c2
    have c2b1 : decide (2000 < l0.length) = false := decide_eq_false (by omega)
    clear c2
    simp only [Option.some.injEq, Prod.mk.injEq] at H
    obtain ⟨rfl, rfl⟩ := H
    go_enter Try.func42, Try.ntmps42
    go_wp2_with (first | ((with_reducible refine gate_dst (N := 10) rfl ?_); refine box_event ?hg (N := 10) ?hd (cs := #[.slice A0 l0.length c0, .int .i64 0]) (t := 81) ?hr ?_; (case hd => rfl); (case hg => rfl); (case hr => first | (go_simp; done) | (go_simp; rfl)); intro gb199 hg w6 hbox hb; have n0_ := Aside0.mk (below_step HBW.out hb); have n1_ := Aside0.mk (below_step (by repeat (first | (with_reducible first | exact HB.out | apply below_alloc | apply pw_below_drewN | apply below_drew1) | exact HB.out)) hb); have n2_ := Aside0.mk (hbox); have n3_ := Aside0.mk ((by rw [hg]; exact (below_size (by repeat (first | (with_reducible first | exact HBW.out | apply below_alloc | apply pw_below_drewN | apply below_drew1) | exact HBW.out))) : w.heap.size ≤ gb199)); have n4_ := Aside0.mk ((Nat.le_trans HW0.out (by rw [hg]; exact (below_size (by repeat (first | (with_reducible first | exact HBW.out | apply below_alloc | apply pw_below_drewN | apply below_drew1) | exact HBW.out))) : w.heap.size ≤ gb199) : w0.heap.size ≤ gb199)); clear HBW; clear HB; have HBW := n0_; have HB := n1_; have BK199 := n2_; have GW199 := n3_; have GE199 := n4_; clear n0_ n1_ n2_ n3_ n4_; clear hb hbox hg))
    go_ret
    exact ⟨_, rfl, (show IsS81 w0 _ gb199 l0 0 from ⟨_, _, by (with_reducible repeat (first | refine blk_drewN ?_ _ | refine blk_drew ?_ | refine blk_alloc ?_ _)); exact BK199.out, GE199.out, HR0.out⟩), by repeat (first | (with_reducible first | exact HB.out | apply below_alloc | apply pw_below_drewN | apply below_drew1 | refine below_set ?_ GE199.out) | exact HB.out), by repeat (first | (with_reducible first | exact HBW.out | apply below_alloc | apply pw_below_drewN | apply below_drew1 | refine below_set ?_ GW199.out) | exact HBW.out)⟩

end Go.Proofs.Ytgdhgncdpmalcaa.Q
namespace Go.Proofs.Ytgdhgncdpmalcaa.Q
open Go.RowKit Go.Proofs.YtgdhgncdpmalcaaW.PrintWords Go.Proofs.YtgdhgncdpmalcaaW.PrintLast Go.Proofs.YtgdhgncdpmalcaaW.PrintMore
attribute [local go_sem] max2_int min2_int max_two min_two max_three min_three max_four min_four   -- for this text's walks alone
set_option linter.unusedVariables false
set_option linter.unusedSimpArgs false

/-! ### spec_DrawPolyPlace: function 24 -/
def spec_DrawPolyPlace.f (k : Nat) (l0 : List Int) : Option ((List (S32)) × Int × Int) := (spec_l6Open.f l0).bind fun bt433 => ((spec_l92Poly.f k bt433.1 bt433.2).bind fun bt436 => ((spec_l91Point.f k bt433.1 bt436.2).bind fun bt440 => (some (bt436.1, bt440.1, bt440.2.1))))
set_option maxHeartbeats 8000000 in
set_option maxRecDepth 100000 in
theorem spec_DrawPolyPlace.calls (k : Nat) (A0 : Option Addr) (c0 : Nat) (l0 : List Int) (r1 : List (S32)) (r2 : Int) (r3 : Int) (w : World) (hr0 : Kd.C (Kd.int .u8) w A0 l0.length l0) (hc0 : l0.length ≤ c0) (h : spec_DrawPolyPlace.f k l0 = some (r1, r2, r3)) :
    Calls Try.prog 24 #[.slice A0 l0.length c0] w fun e w' => ∃ v0_ : Value, e = .returned (.tuple #[v0_, .agg #[.int .i64 r2, .int .i64 r3]]) ∧ Kd.Q k32 32 w' w.heap.size (fun _ => True) v0_ r1 ∧ Below w.heap.size w w' := by
  have hu32 := Try.underlying32
  have HR0 := Aside0.mk hr0
  have HC0 := Aside0.mk hc0
  clear hr0 hc0
  have HB := Aside0.mk (Below.refl w.heap.size w)
  have H : ((spec_l6Open.f l0).bind fun bt433 => ((spec_l92Poly.f k bt433.1 bt433.2).bind fun bt436 => ((spec_l91Point.f k bt433.1 bt436.2).bind fun bt440 => (some (bt436.1, bt440.1, bt440.2.1))))) = some (r1, r2, r3) := h
  clear h
  replace H := Option.bind_eq_some_iff.mp H
  obtain ⟨⟨t433, t434⟩, A20, H⟩ := H
  replace H : ((spec_l92Poly.f k t433 t434).bind fun bt436 => ((spec_l91Point.f k t433 bt436.2).bind fun bt440 => (some (bt436.1, bt440.1, bt440.2.1)))) = some (r1, r2, r3) := H
  have A2 := Aside0.mk A20
  clear A20
  replace H := Option.bind_eq_some_iff.mp H
  obtain ⟨⟨t436, t439⟩, A30, H⟩ := H
  replace H : ((spec_l91Point.f k t433 t439).bind fun bt440 => (some (t436, bt440.1, bt440.2.1))) = some (r1, r2, r3) := H
  have A3 := Aside0.mk A30
  clear A30
  replace H := Option.bind_eq_some_iff.mp H
  obtain ⟨⟨t440, t441, t442⟩, A40, H⟩ := H
  replace H : (some (t436, t440, t441)) = some (r1, r2, r3) := H
  have A4 := Aside0.mk A40
  clear A40
  simp only [Option.some.injEq, Prod.mk.injEq] at H
  obtain ⟨rfl, rfl, rfl⟩ := H
  go_enter Try.func24, Try.ntmps24
  go_wp2_with (first | ((with_reducible refine gate_dst (N := 3) rfl ?_); refine box_event ?hg (N := 3) ?hd (cs := #[.int .i64 0, .int .i64 0]) (t := 32) ?hr ?_; (case hd => rfl); (case hg => rfl); (case hr => first | (go_simp; done) | (go_simp; rfl)); intro gb432 hg w5 hbox hb; have n0_ := Aside0.mk (below_step (by repeat (first | (with_reducible first | exact HB.out | apply below_alloc | apply pw_below_drewN | apply below_drew1) | exact HB.out)) hb); have n1_ := Aside0.mk (hbox); have n2_ := Aside0.mk ((by rw [hg]; exact (below_size (by repeat (first | (with_reducible first | exact HB.out | apply below_alloc | apply pw_below_drewN | apply below_drew1) | exact HB.out))) : w.heap.size ≤ gb432)); have n3_ := Aside0.mk ((by rw [hg]; exact (below_size (by repeat (first | (with_reducible first | exact HB.out | apply below_alloc | apply pw_below_drewN | apply below_drew1) | exact HB.out))) : w.heap.size ≤ gb432)); clear HB; have HB := n0_; have BK432 := n1_; have GW432 := n2_; have GE432 := n3_; clear n0_ n1_ n2_ n3_; clear hb hbox hg) | ((with_reducible refine gate_callee (f := 42) rfl ?_); refine goesL_ (some 7) rfl rfl Try.func42 (by kernel_rfl) rfl #[.slice A0 l0.length c0] rfl (by (try simp only [List.map_toArray, List.map_cons, List.map_nil]); first | done | rfl | (simp only [List.length_drop, List.length_take]; rfl)) ?_; (with_reducible refine (spec_l6Open.calls _ _ l0 t433 t434 w _ ?side1 ?side2 ?side3 A2.out).mono ?_); (case side1 => repeat (first | (with_reducible first | exact HB.out | apply below_alloc | apply pw_below_drewN | apply below_drew1 | refine below_set ?_ GE432.out) | exact HB.out)); (case side2 => exact HR0.out); (case side3 => exact HC0.out); rintro e w6 ⟨g435, rfl, hi, hb, hb2⟩; refine ⟨_, rfl, ?_⟩; have n0_ := Aside0.mk (blk_below (g := gb432) (o := .cells #[.int .i64 0, .int .i64 0] 32 (0, 0)) (by (with_reducible repeat (first | refine blk_drewN ?_ _ | refine blk_drew ?_ | refine blk_alloc ?_ _)); exact BK432.out) hb2); have n1_ := Aside0.mk (hb); have n2_ := Aside0.mk (hi); have n3_ := Aside0.mk (IsS81.ne_blk hi (blk_below (g := gb432) (o := .cells #[.int .i64 0, .int .i64 0] 32 (0, 0)) (by (with_reducible repeat (first | refine blk_drewN ?_ _ | refine blk_drew ?_ | refine blk_alloc ?_ _)); exact BK432.out) hb2) (by decide)); have n4_ := Aside0.mk (Ne.symm (IsS81.ne_blk hi (blk_below (g := gb432) (o := .cells #[.int .i64 0, .int .i64 0] 32 (0, 0)) (by (with_reducible repeat (first | refine blk_drewN ?_ _ | refine blk_drew ?_ | refine blk_alloc ?_ _)); exact BK432.out) hb2) (by decide))); clear BK432; clear HB; have BK432 := n0_; have HB := n1_; have HI435 := n2_; have NB435_432 := n3_; have NB432_435 := n4_; clear n0_ n1_ n2_ n3_ n4_; (try clear hb); (try clear hb2); (try clear hk); (try clear hi)) | ((with_reducible refine gate_callee (f := 41) rfl ?_); refine goesL_ (some 9) rfl rfl Try.func41 (by kernel_rfl) rfl #[.pointer (some ⟨g435, 0, none⟩)] rfl (by (try simp only [List.map_toArray, List.map_cons, List.map_nil]); first | done | rfl | (simp only [List.length_drop, List.length_take]; rfl)) ?_; (with_reducible refine (spec_l92Poly.calls k g435 t433 t434 t436 t439 w _ ?side1 ?side2 A3.out).mono ?_); (case side1 => repeat (first | (with_reducible first | exact HI435.out | apply IsS81.alloc | apply IsS81.drewN | apply IsS81.drew | apply IsS81.set_1 | refine IsS81.far ?_ NB435_432.out _) | exact HI435.out)); (case side2 => repeat (first | (with_reducible first | exact HB.out | apply below_alloc | apply pw_below_drewN | apply below_drew1 | refine below_set ?_ (IsS81.ge HI435.out) | refine below_set ?_ GE432.out) | exact HB.out)); rintro e w7 ⟨v437, rfl, ho0, hi, hb, hk⟩; refine ⟨_, rfl, ?_⟩; have n0_ := Aside0.mk (KeepBut.blk hk (g' := gb432) (o := .cells #[.int .i64 0, .int .i64 0] 32 (0, 0)) (by (with_reducible repeat (first | refine blk_drewN ?_ _ | refine blk_drew ?_ | refine blk_alloc ?_ _)); exact BK432.out) NB432_435.out (by simp)); have n1_ := Aside0.mk (Kd.Q_lower (Kd.Q_newB ho0 (g := gb432) (o := .cells #[.int .i64 0, .int .i64 0] 32 (0, 0)) (by (with_reducible repeat (first | refine blk_drewN ?_ _ | refine blk_drew ?_ | refine blk_alloc ?_ _)); exact BK432.out)) (below_size (by repeat (first | (with_reducible first | exact HB.out | apply below_alloc | apply pw_below_drewN | apply below_drew1 | refine below_set ?_ (IsS81.ge HI435.out) | refine below_set ?_ GE432.out) | exact HB.out)))); have n2_ := Aside0.mk (hb); have n3_ := Aside0.mk (hi); clear BK432; clear HB; clear HI435; have BK432 := n0_; have HO438 := n1_; have HB := n2_; have HI435 := n3_; clear n0_ n1_ n2_ n3_; (try clear hb); (try clear hb2); (try clear hk); (try clear hi); (try clear ho0)) | ((with_reducible refine gate_callee (f := 55) rfl ?_); refine goesL_ (some 12) rfl rfl Try.func55 (by kernel_rfl) rfl #[.pointer (some ⟨g435, 0, none⟩)] rfl (by (try simp only [List.map_toArray, List.map_cons, List.map_nil]); first | done | rfl | (simp only [List.length_drop, List.length_take]; rfl)) ?_; (with_reducible refine (spec_l91Point.calls k g435 t433 t439 t440 t441 t442 w _ ?side1 ?side2 A4.out).mono ?_); (case side1 => repeat (first | (with_reducible first | exact HI435.out | apply IsS81.alloc | apply IsS81.drewN | apply IsS81.drew | apply IsS81.set_1 | refine IsS81.far ?_ NB435_432.out _) | exact HI435.out)); (case side2 => repeat (first | (with_reducible first | exact HB.out | apply below_alloc | apply pw_below_drewN | apply below_drew1 | refine below_set ?_ (IsS81.ge HI435.out) | refine below_set ?_ GE432.out) | exact HB.out)); rintro e w8 ⟨rfl, hi, hb, hk⟩; refine ⟨_, rfl, ?_⟩; have n0_ := Aside0.mk (KeepBut.blk hk (g' := gb432) (o := .cells #[.int .i64 0, .int .i64 0] 32 (0, 0)) (by (with_reducible repeat (first | refine blk_drewN ?_ _ | refine blk_drew ?_ | refine blk_alloc ?_ _)); exact BK432.out) NB432_435.out (by simp)); have n1_ := Aside0.mk (Kd.Q_mono (Kd.Q_keep (IsS81.apartQ (show IsS81 w _ g435 t433 t439 from by repeat (first | (with_reducible first | exact HI435.out | apply IsS81.alloc | apply IsS81.drewN | apply IsS81.drew | apply IsS81.set_1 | refine IsS81.far ?_ NB435_432.out _) | exact HI435.out)) (by (with_reducible repeat (first | apply Kd.Q_alloc | apply Kd.Q_drewN | apply Kd.Q_drew)); exact HO438.out) (by decide)) hk (fun _ h => h.2)) (fun _ h => h.1)); have n2_ := Aside0.mk (hb); have n3_ := Aside0.mk (hi); clear BK432; clear HO438; clear HB; clear HI435; have BK432 := n0_; have HO438 := n1_; have HB := n2_; have HI435 := n3_; clear n0_ n1_ n2_ n3_; (try clear hb); (try clear hb2); (try clear hk); (try clear hi); have hnb9 := NB432_435.out; have hnc9 := NB435_432.out; have hcz10_0 : w8.cell? ⟨gb432, 0, none⟩ = some (.int .i64 0) := (blk_cell BK432.out 0).trans rfl; have hcz10_1 : w8.cell? ⟨gb432, 1, none⟩ = some (.int .i64 0) := (blk_cell BK432.out 1).trans rfl; have hfz10_0 := blk_frozen BK432.out 0; have hfz10_1 := blk_frozen BK432.out 1))
  refine bodyPost_ret (results_tc rfl _ _ gb432 32 #[.int .i64 t440, .int .i64 t441] (0, 0) _ rfl (by (with_reducible repeat (first | refine blk_drewN ?_ _ | refine blk_drew ?_ | refine blk_alloc ?_ _)); refine blk_put (cs := #[.int .i64 t440, .int .i64 0]) ?_ 1 _ rfl; (with_reducible repeat (first | refine blk_drewN ?_ _ | refine blk_drew ?_ | refine blk_alloc ?_ _)); refine blk_put (cs := #[.int .i64 0, .int .i64 0]) ?_ 0 _ rfl; (with_reducible repeat (first | refine blk_drewN ?_ _ | refine blk_drew ?_ | refine blk_alloc ?_ _)); exact BK432.out) Try.underlying32 rfl (by kernel_rfl)) rfl ?_
  exact ⟨_, by first | rfl | (simp [errW_none, errW_some] <;> rfl) | (simp [*, errW_none, errW_some] <;> rfl), by (with_reducible repeat (first | apply Kd.Q_alloc | apply Kd.Q_drewN | apply Kd.Q_drew)); exact Kd.Q_mono (Kd.Q_far (p := ⟨gb432, 1, none⟩) (Kd.Q_far (p := ⟨gb432, 0, none⟩) (Kd.Q_mono HO438.out (fun k_ hk => (⟨hk, hk.2⟩ : _ ∧ k_ ≠ gb432))) (fun _ hk => hk.2) (.int .i64 t440)) (fun _ hk => hk.2) (.int .i64 t441)) (fun _ hk => trivial), by repeat (first | (with_reducible first | exact HB.out | apply below_alloc | apply pw_below_drewN | apply below_drew1 | refine below_set ?_ (IsS81.ge HI435.out) | refine below_set ?_ GE432.out) | exact HB.out)⟩

end Go.Proofs.Ytgdhgncdpmalcaa.Q
namespace Go.Proofs.Ytgdhgncdpmalcaa.Pure
open Go.RowKit Go.Proofs.Ytgdhgncdpmalcaa.Q Go.Proofs.YtgdhgncdpmalcaaW.PrintWords Go.Proofs.YtgdhgncdpmalcaaW.PrintLast Go.Proofs.YtgdhgncdpmalcaaW.PrintMore

abbrev Pt := S32
theorem pw64 {x : Int} (h0 : -9223372036854775808 ≤ x) (h1 : x ≤ 9223372036854775807) : wrap64 x = x := by unfold wrap64; omega
section
variable {α : Type} (pre suf : List α) (y : α)
theorem len_midP : (pre.length : Int) < ((pre ++ y :: suf).length : Int) := by simp; omega
theorem app_midP : pre ++ y :: suf = (pre ++ [y]) ++ suf := by simp
theorem next_midP (h : pre.length < 4611686018427387904) : wrap64 ((pre.length : Int) + 1) = ((pre ++ [y]).length : Int) := by
  unfold wrap64; simp; omega
end
theorem rd_midP (pre suf : List Pt) (y : Pt) : rd_T32 (pre ++ y :: suf) (pre.length : Int) = y := by simp [rd_T32]

/-- A point in range. -/
def ptB (p : Pt) : Bool := decide ((-10000 ≤ p.f0 ∧ p.f0 ≤ 10000) ∧ -10000 ≤ p.f1 ∧ p.f1 ≤ 10000)
theorem ptB_iff {p : Pt} : ptB p = true ↔ (-10000 ≤ p.f0 ∧ p.f0 ≤ 10000) ∧ -10000 ≤ p.f1 ∧ p.f1 ≤ 10000 := by unfold ptB; rw [decide_eq_true_eq]
/-- Valid corners. -/
def cvB (l : List Pt) : Bool := decide (3 ≤ l.length ∧ l.length ≤ 12) && l.all ptB
theorem cvB_iff {l : List Pt} : cvB l = true ↔ (3 ≤ l.length ∧ l.length ≤ 12) ∧ ∀ p ∈ l, ptB p = true := by
  unfold cvB; rw [Bool.and_eq_true, decide_eq_true_eq, List.all_eq_true]
theorem pwithin_eq (a m : Int) (h0 : 0 ≤ m) (h1 : m ≤ 9223372036854775807) : impl_within.f a m = some (decide (-m ≤ a ∧ a ≤ m)) := by
  unfold impl_within.f
  rw [pw64 (by omega) (by omega)]
  by_cases h : -m ≤ a
  · rw [if_pos h]; congr 1; rw [decide_eq_decide]; omega
  · rw [if_neg h]; congr 1; symm; rw [decide_eq_false_iff_not]; omega
theorem impl_PtValid_eq (p : Pt) : impl_PointValid.f p.f0 p.f1 = some (ptB p) := by
  simp only [impl_PointValid.f, impl_pairOf.f, impl_pair_inRange.f, pwithin_eq _ 10000 (by omega) (by omega), Option.bind_some]
  unfold ptB
  by_cases h : -10000 ≤ p.f0 ∧ p.f0 ≤ 10000
  · rw [if_pos (by simpa using h)]; simp only [Option.bind_some]; congr 1; rw [decide_eq_decide]; exact ⟨fun q => ⟨h, q⟩, fun q => q.2⟩
  · rw [if_neg (by simpa using h)]; simp only [Option.bind_some]; congr 1; symm; rw [decide_eq_false_iff_not]; exact fun q => h q.1
theorem cornersValid_l0 (suf : List Pt) : ∀ (pre : List Pt) (k : Nat), suf.length < k → pre.length + suf.length < 4611686018427387904 →
    impl_cornersValid.l0 k (pre ++ suf) ((pre ++ suf).length : Int) (pre.length : Int) = some (suf.all ptB) := by
  induction suf with
  | nil =>
    intro pre k hk _
    obtain ⟨k, rfl⟩ : ∃ m, k = m + 1 := ⟨k - 1, by omega⟩
    simp [impl_cornersValid.l0]
  | cons y suf ih =>
    intro pre k hk hl
    simp only [List.length_cons] at hk hl
    obtain ⟨k, rfl⟩ : ∃ m, k = m + 1 := ⟨k - 1, by omega⟩
    rw [impl_cornersValid.l0, if_pos (len_midP _ _ _), if_pos (by omega), if_pos (len_midP _ _ _), rd_midP, impl_PtValid_eq]
    simp only [Option.bind_some, List.all_cons]
    by_cases h : ptB y = true
    · rw [if_pos h, next_midP pre y (by omega), app_midP pre suf y, ih (pre ++ [y]) k (by omega) (by simp; omega), h, Bool.true_and]
    · rw [if_neg h, Bool.eq_false_iff.2 h, Bool.false_and]
theorem cornersValid_eq (k : Nat) (l : List Pt) (hk : 20 < k) : impl_cornersValid.f k l = some (cvB l) := by
  obtain ⟨k, rfl⟩ : ∃ m, k = m + 1 := ⟨k - 1, by omega⟩
  unfold impl_cornersValid.f cvB
  by_cases h1 : (l.length : Int) < 3
  · rw [if_pos h1, decide_eq_false (by omega)]; simp [impl_cornersValid.j0]
  · rw [if_neg h1]
    simp only [impl_cornersValid.j0]
    by_cases h2 : (l.length : Int) > 12
    · rw [if_pos (by simpa using h2), decide_eq_false (by omega)]; simp
    · rw [if_neg (by simpa using h2), decide_eq_true (by omega), Bool.true_and]
      have := cornersValid_l0 l [] k (by omega) (by simp; omega)
      simpa using this
end Go.Proofs.Ytgdhgncdpmalcaa.Pure
namespace Go.Proofs.Ytgdhgncdpmalcaa.Ring
open Go.RowKit Go.Shelf Go.Proofs.Ytgdhgncdpmalcaa.Q Go.Proofs.Ytgdhgncdpmalcaa.Drawn Go.Proofs.YtgdhgncdpmalcaaW.PrintWords Go.Proofs.YtgdhgncdpmalcaaW.PrintLast Go.Proofs.YtgdhgncdpmalcaaW.PrintMore
set_option linter.unusedVariables false
set_option linter.unusedSimpArgs false
attribute [local go_sem] Oper.semAt_some

theorem cvB_len {l : List Pt} (h : Pure.cvB l = true) : 3 ≤ l.length ∧ l.length ≤ 12 := (Pure.cvB_iff.1 h).1
/-- A linked list of corners of l, as a value of an outline. -/
def LinkedV (w : World) (l : List Pt) (bs : Nat → Nat) (w' : World) : Prop := Ring w' w'.heap.size bs l ∧ (∀ j, j < l.length → w.heap.size ≤ bs j) ∧ Below w.heap.size w w'
def NoRing (w : World) (e : Ending) (w' : World) : Prop := e = .returned (.tuple #[.agg #[.pointer none, .int .i64 0], .bool false]) ∧ Below w.heap.size w w'
def IsRing (w : World) (l : List Pt) (e : Ending) (w' : World) : Prop := ∃ bs, e = .returned (.tuple #[.agg #[.pointer (some ⟨bs 0, 0, none⟩), .int .i64 l.length], .bool true]) ∧ LinkedV w l bs w'
theorem outline_is (A0 : Option Addr) (c0 : Nat) (l0 : List Pt) (w : World) (hr0 : Kd.C k32 w A0 l0.length l0) (hc0 : l0.length ≤ c0) (h : Pure.cvB l0 = true) :
    Calls Try.prog 43 #[.slice A0 l0.length c0] w (IsRing w l0) :=
  (outline_yes 21 A0 c0 l0 w hr0 hc0 ((Pure.cornersValid_eq 21 l0 (by decide)).trans (by rw [h])) (cvB_len h).1 (cvB_len h).2).mono fun e w' ⟨bs, he, hr, hl, hb⟩ => ⟨bs, he, hr, hl, hb⟩
theorem outline_isnt (A0 : Option Addr) (c0 : Nat) (l0 : List Pt) (w : World) (hr0 : Kd.C k32 w A0 l0.length l0) (hc0 : l0.length ≤ c0) (h : Pure.cvB l0 = false) :
    Calls Try.prog 43 #[.slice A0 l0.length c0] w (NoRing w) :=
  outline_no 21 A0 c0 l0 w hr0 hc0 ((Pure.cornersValid_eq 21 l0 (by decide)).trans (by rw [h]))
theorem at_new {w w1 : World} {cs : Array Value} {T : TypeId} (hb : Below (w.heap.size + 1) (w.alloc (.cells cs T)) w1) (o : Nat) : w1.cell? ⟨w.heap.size, o, none⟩ = cs[o]? ∧ w1.frozen? ⟨w.heap.size, o, none⟩ = (w.alloc (.cells cs T)).frozen? ⟨w.heap.size, o, none⟩ :=
  ⟨(hb.cell (p := ⟨w.heap.size, o, none⟩) (by dsimp only; omega)).trans (World.cell?_alloc_at _ _ _ _ rfl), hb.frozen (p := ⟨w.heap.size, o, none⟩) (by dsimp only; omega)⟩

end Go.Proofs.Ytgdhgncdpmalcaa.Ring
namespace Go.Proofs.Ytgdhgncdpmalcaa.Pure
open Go.RowKit Go.Proofs.Ytgdhgncdpmalcaa.Q Go.Proofs.YtgdhgncdpmalcaaW.PrintWords Go.Proofs.YtgdhgncdpmalcaaW.PrintLast Go.Proofs.YtgdhgncdpmalcaaW.PrintMore

theorem w64 {x : Int} (h0 : -9223372036854775808 ≤ x) (h1 : x ≤ 9223372036854775807) : wrap64 x = x := by
  unfold wrap64; omega

theorem mx_eq (a b : Int) : mx a b = max a b := by unfold mx; split <;> omega
theorem mn_eq (a b : Int) : mn a b = min a b := by unfold mn; split <;> omega

/-- A valid point. -/
def PV (x y : Int) : Bool := decide (-10000 ≤ x ∧ x ≤ 10000 ∧ -10000 ≤ y ∧ y ≤ 10000)
theorem PV_iff {x y : Int} : PV x y = true ↔ (-10000 ≤ x ∧ x ≤ 10000 ∧ -10000 ≤ y ∧ y ≤ 10000) := by simp [PV]

theorem spec_l6In_eq (a b c : Int) : spec_l6In.f a b c = some (decide (b ≤ a ∧ a ≤ c)) := by
  unfold spec_l6In.f
  by_cases h : a ≥ b
  · rw [if_pos h]; congr 1; rw [decide_eq_decide]; omega
  · rw [if_neg h]; congr 1; symm; rw [decide_eq_false_iff_not]; omega

theorem impl_within_eq (a m : Int) (h0 : 0 ≤ m) (h1 : m ≤ 9223372036854775807) : impl_within.f a m = some (decide (-m ≤ a ∧ a ≤ m)) := by
  unfold impl_within.f
  rw [w64 (by omega) (by omega)]
  by_cases h : -m ≤ a
  · rw [if_pos h]; congr 1; rw [decide_eq_decide]; omega
  · rw [if_neg h]; congr 1; symm; rw [decide_eq_false_iff_not]; omega

theorem impl_inRange_eq (x y m : Int) (h0 : 0 ≤ m) (h1 : m ≤ 9223372036854775807) : impl_pair_inRange.f x y m = some (decide (-m ≤ x ∧ x ≤ m ∧ -m ≤ y ∧ y ≤ m)) := by
  simp only [impl_pair_inRange.f, impl_within_eq _ _ h0 h1, Option.bind_some]
  by_cases h : (-m ≤ x ∧ x ≤ m)
  · simp [h]
  · rw [if_neg (by simpa using h)]; congr 1; symm; rw [decide_eq_false_iff_not]; omega

theorem impl_PointValid_eq (x y : Int) : impl_PointValid.f x y = some (PV x y) := by
  simp only [impl_PointValid.f, impl_pairOf.f, Option.bind_some]
  rw [impl_inRange_eq _ _ _ (by omega) (by omega)]
  rfl

theorem mul_bd {x y m n : Int} (hx : -m ≤ x ∧ x ≤ m) (hy : -n ≤ y ∧ y ≤ n) (hm : 0 ≤ m) (hn : 0 ≤ n) : -(m * n) ≤ x * y ∧ x * y ≤ m * n := by
  have h1 : x.natAbs ≤ m.toNat := by omega
  have h2 : y.natAbs ≤ n.toNat := by omega
  have h3 : (x * y).natAbs ≤ m.toNat * n.toNat := by rw [Int.natAbs_mul]; exact Nat.mul_le_mul h1 h2
  have h4 : ((m.toNat * n.toNat : Nat) : Int) = m * n := by rw [Int.natCast_mul, Int.toNat_of_nonneg hm, Int.toNat_of_nonneg hn]
  omega

end Go.Proofs.Ytgdhgncdpmalcaa.Pure
