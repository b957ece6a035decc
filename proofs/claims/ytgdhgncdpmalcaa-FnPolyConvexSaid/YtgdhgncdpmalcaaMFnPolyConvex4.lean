/- Part 4 of what the proof of this law rests on: the functions of the translation as plain Lean functions with their walks, and the plain laws behind. -/
import Derived.Outline
import Derived.Test.YtgdhgncdpmalcaaMFnPolyConvex3
namespace Go.Proofs.Ytgdhgncdpmalcaa.Q
open Go.RowKit Go.Proofs.YtgdhgncdpmalcaaW.PrintWords Go.Proofs.YtgdhgncdpmalcaaW.PrintLast Go.Proofs.YtgdhgncdpmalcaaW.PrintMore
attribute [local go_sem] max2_int min2_int max_two min_two max_three min_three max_four min_four
set_option linter.unusedVariables false
set_option linter.unusedSimpArgs false

/-! ### spec_l91Point: function 55 -/
def spec_l91Point.f (k : Nat) (s0_0 : List Int) (s0_1 : Int) : Option (Int × Int × Int) := (spec_l6Rd_pick.f k s0_0 s0_1 13).bind fun bt105 => ((spec_l6Rd_pick.f k s0_0 bt105.2 13).bind fun bt107 => ((spec_l6Rd_pick.f k s0_0 bt107.2 40).bind fun bt110 => (if bt110.1 = 0 then ((some (([10000, 10001, (-10001)] : List Int) : List Int)).bind fun y112 => ((spec_l6Rd_pick.f k s0_0 bt110.2 3).bind fun bt115 => (if 0 ≤ bt115.1 then (if bt115.1 < (y112.length : Int) then (some (rd y112 bt115.1, wrap64 (bt107.1 - 6), bt115.2)) else (none)) else (none)))) else (if bt110.1 = 1 then ((spec_l6Rd_pick.f k s0_0 bt110.2 200).bind fun bt118 => ((spec_l6Rd_pick.f k s0_0 bt118.2 200).bind fun bt120 => (some (wrap64 ((wrap64 (bt118.1 * 50)) - 5000), wrap64 ((wrap64 (bt120.1 * 50)) - 5000), bt120.2)))) else (some (wrap64 (bt105.1 - 6), wrap64 (bt107.1 - 6), bt110.2))))))
set_option maxHeartbeats 8000000 in
set_option maxRecDepth 100000 in
theorem spec_l91Point.calls (k : Nat) (g : Nat) (s0_0 : List Int) (s0_1 : Int) (r1 : Int) (r2 : Int) (r3 : Int) (w0 w : World) (hI : IsS81 w0 w g s0_0 s0_1) (hB : Below w0.heap.size w0 w) (h : spec_l91Point.f k s0_0 s0_1 = some (r1, r2, r3)) :
    Calls Try.prog 55 #[.pointer (some ⟨g, 0, none⟩)] w fun e w' => e = .returned (.agg #[.int .i64 r1, .int .i64 r2]) ∧ IsS81 w0 w' g s0_0 r3 ∧ Below w0.heap.size w0 w' ∧ KeepBut w w' g none := by
  have hu32 := Try.underlying32
  have HI0 := Aside0.mk hI
  have HK := Aside0.mk (KeepBut.refl w g none)
  have HL := Aside0.mk hB.size
  clear hI
  have HW0 := Aside0.mk hB.size
  have HB := Aside0.mk hB
  clear hB
  have H : ((spec_l6Rd_pick.f k s0_0 s0_1 13).bind fun bt105 => ((spec_l6Rd_pick.f k s0_0 bt105.2 13).bind fun bt107 => ((spec_l6Rd_pick.f k s0_0 bt107.2 40).bind fun bt110 => (if bt110.1 = 0 then ((some (([10000, 10001, (-10001)] : List Int) : List Int)).bind fun y112 => ((spec_l6Rd_pick.f k s0_0 bt110.2 3).bind fun bt115 => (if 0 ≤ bt115.1 then (if bt115.1 < (y112.length : Int) then (some (rd y112 bt115.1, wrap64 (bt107.1 - 6), bt115.2)) else (none)) else (none)))) else (if bt110.1 = 1 then ((spec_l6Rd_pick.f k s0_0 bt110.2 200).bind fun bt118 => ((spec_l6Rd_pick.f k s0_0 bt118.2 200).bind fun bt120 => (some (wrap64 ((wrap64 (bt118.1 * 50)) - 5000), wrap64 ((wrap64 (bt120.1 * 50)) - 5000), bt120.2)))) else (some (wrap64 (bt105.1 - 6), wrap64 (bt107.1 - 6), bt110.2))))))) = some (r1, r2, r3) := h
  clear h
  replace H := Option.bind_eq_some_iff.mp H
  obtain ⟨⟨t105, t106⟩, A20, H⟩ := H
  replace H : ((spec_l6Rd_pick.f k s0_0 t106 13).bind fun bt107 => ((spec_l6Rd_pick.f k s0_0 bt107.2 40).bind fun bt110 => (if bt110.1 = 0 then ((some (([10000, 10001, (-10001)] : List Int) : List Int)).bind fun y112 => ((spec_l6Rd_pick.f k s0_0 bt110.2 3).bind fun bt115 => (if 0 ≤ bt115.1 then (if bt115.1 < (y112.length : Int) then (some (rd y112 bt115.1, wrap64 (bt107.1 - 6), bt115.2)) else (none)) else (none)))) else (if bt110.1 = 1 then ((spec_l6Rd_pick.f k s0_0 bt110.2 200).bind fun bt118 => ((spec_l6Rd_pick.f k s0_0 bt118.2 200).bind fun bt120 => (some (wrap64 ((wrap64 (bt118.1 * 50)) - 5000), wrap64 ((wrap64 (bt120.1 * 50)) - 5000), bt120.2)))) else (some (wrap64 (t105 - 6), wrap64 (bt107.1 - 6), bt110.2)))))) = some (r1, r2, r3) := H
  have A2 := Aside0.mk A20
  clear A20
  replace H := Option.bind_eq_some_iff.mp H
  obtain ⟨⟨t107, t108⟩, A30, H⟩ := H
  replace H : ((spec_l6Rd_pick.f k s0_0 t108 40).bind fun bt110 => (if bt110.1 = 0 then ((some (([10000, 10001, (-10001)] : List Int) : List Int)).bind fun y112 => ((spec_l6Rd_pick.f k s0_0 bt110.2 3).bind fun bt115 => (if 0 ≤ bt115.1 then (if bt115.1 < (y112.length : Int) then (some (rd y112 bt115.1, wrap64 (t107 - 6), bt115.2)) else (none)) else (none)))) else (if bt110.1 = 1 then ((spec_l6Rd_pick.f k s0_0 bt110.2 200).bind fun bt118 => ((spec_l6Rd_pick.f k s0_0 bt118.2 200).bind fun bt120 => (some (wrap64 ((wrap64 (bt118.1 * 50)) - 5000), wrap64 ((wrap64 (bt120.1 * 50)) - 5000), bt120.2)))) else (some (wrap64 (t105 - 6), wrap64 (t107 - 6), bt110.2))))) = some (r1, r2, r3) := H
  have A3 := Aside0.mk A30
  clear A30
  replace H := Option.bind_eq_some_iff.mp H
  obtain ⟨⟨t110, t111⟩, A40, H⟩ := H
  replace H : (if t110 = 0 then ((some (([10000, 10001, (-10001)] : List Int) : List Int)).bind fun y112 => ((spec_l6Rd_pick.f k s0_0 t111 3).bind fun bt115 => (if 0 ≤ bt115.1 then (if bt115.1 < (y112.length : Int) then (some (rd y112 bt115.1, wrap64 (t107 - 6), bt115.2)) else (none)) else (none)))) else (if t110 = 1 then ((spec_l6Rd_pick.f k s0_0 t111 200).bind fun bt118 => ((spec_l6Rd_pick.f k s0_0 bt118.2 200).bind fun bt120 => (some (wrap64 ((wrap64 (bt118.1 * 50)) - 5000), wrap64 ((wrap64 (bt120.1 * 50)) - 5000), bt120.2)))) else (some (wrap64 (t105 - 6), wrap64 (t107 - 6), t111)))) = some (r1, r2, r3) := H
  have A4 := Aside0.mk A40
  clear A40
  by_cases c5 : t110 = 0
  · rw [if_pos c5] at H
    have c5b0 : (t110 == 0) = true := beq_iff_eq.mpr c5
    have c5b1 : (t110 != 0) = false := bne_eq_false_iff_eq.mpr c5
    clear c5
    obtain ⟨y112, hy112⟩ : ∃ y_ : List Int, y_ = (([10000, 10001, (-10001)] : List Int)) := ⟨_, rfl⟩
    replace H : ((spec_l6Rd_pick.f k s0_0 t111 3).bind fun bt115 => (if 0 ≤ bt115.1 then (if bt115.1 < (y112.length : Int) then (some (rd y112 bt115.1, wrap64 (t107 - 6), bt115.2)) else (none)) else (none))) = some (r1, r2, r3) := by first | (rw [hy112]; with_reducible exact H) | (have H2_ := (Option.bind_some _ _).symm.trans H; rw [hy112]; with_reducible exact H2_) | (have H2_ := (Option.bind_some _ _).symm.trans H; with_reducible exact H2_) | with_reducible exact H | (rw [hy112]; exact H) | exact H
    have Ny112 := Aside0.mk hy112
    clear hy112
    replace H := Option.bind_eq_some_iff.mp H
    obtain ⟨⟨t115, t116⟩, A60, H⟩ := H
    replace H : (if 0 ≤ t115 then (if t115 < (y112.length : Int) then (some (rd y112 t115, wrap64 (t107 - 6), t116)) else (none)) else (none)) = some (r1, r2, r3) := H
    have A6 := Aside0.mk A60
    clear A60
    by_cases c7 : 0 ≤ t115
    · rw [if_pos c7] at H
      have c7b0 : decide (0 ≤ t115) = true := decide_eq_true c7
      clear c7
      by_cases c8 : t115 < (y112.length : Int)
      · rw [if_pos c8] at H
        have c8b0 : decide (t115 < (y112.length : Int)) = true := decide_eq_true c8
        clear c8
        simp only [Option.some.injEq, Prod.mk.injEq] at H
        obtain ⟨rfl, rfl, rfl⟩ := H
        go_enter Try.func55, Try.ntmps55
        go_wp2_with (first | ((with_reducible refine gate_dst (N := 2) rfl ?_); refine box_event ?hg (N := 2) ?hd (cs := #[.int .i64 0, .int .i64 0]) (t := 32) ?hr ?_; (case hd => rfl); (case hg => rfl); (case hr => exact qq23); intro gb104 hg w9 hbox hb; have n0_ := Aside0.mk (IsS81.below qq7 hb); have n1_ := Aside0.mk (KeepBut.trans qq4 (KeepBut.of_below hb g none) (.inl rfl)); have n2_ := Aside0.mk (below_step (qq5 HB.out HI0.out) hb); have n3_ := Aside0.mk (hbox); have n4_ := Aside0.mk ((qq59 : w.heap.size ≤ gb104)); have n5_ := Aside0.mk ((Nat.le_trans HW0.out (qq59 : w.heap.size ≤ gb104) : w0.heap.size ≤ gb104)); have n6_ := Aside0.mk ((qq43 : g ≠ gb104)); have n7_ := Aside0.mk ((qq44 : gb104 ≠ g)); clear HI0; clear HK; clear HB; have HI0 := n0_; have HK := n1_; have HB := n2_; have BK104 := n3_; have GW104 := n4_; have GE104 := n5_; have NB0_104 := n6_; have NB104_0 := n7_; clear n0_ n1_ n2_ n3_ n4_ n5_ n6_ n7_; clear hb hbox hg) | ((with_reducible refine gate_callee (f := 48) rfl ?_); refine goesL_ (some 5) rfl rfl Try.func48 (by kernel_rfl) rfl #[.pointer (some ⟨g, 0, none⟩), .int .i64 13] rfl qq3 ?_; (with_reducible refine (spec_l6Rd_pick.calls k g s0_0 s0_1 13 t105 t106 w0 _ ?side1 ?side2 A2.out).mono ?_); (case side1 => exact qq26); (case side2 => exact qq25); rintro e w10 ⟨rfl, hi, hb, hk⟩; refine ⟨_, rfl, ?_⟩; have n0_ := Aside0.mk (KeepBut.blk hk (g' := gb104) (o := .cells #[.int .i64 0, .int .i64 0] 32 (0, 0)) (qq11 BK104.out) NB104_0.out (by simp)); have n1_ := Aside0.mk (KeepBut.trans qq19 hk (.inl rfl)); have n2_ := Aside0.mk (hb); have n3_ := Aside0.mk (hi); clear BK104; clear HK; clear HB; clear HI0; have BK104 := n0_; have HK := n1_; have HB := n2_; have HI0 := n3_; clear n0_ n1_ n2_ n3_; (try clear hb); (try clear hb2); (try clear hk); (try clear hi)) | ((with_reducible refine gate_callee (f := 48) rfl ?_); refine goesL_ (some 8) rfl rfl Try.func48 (by kernel_rfl) rfl #[.pointer (some ⟨g, 0, none⟩), .int .i64 13] rfl qq3 ?_; (with_reducible refine (spec_l6Rd_pick.calls k g s0_0 t106 13 t107 t108 w0 _ ?side1 ?side2 A3.out).mono ?_); (case side1 => exact qq26); (case side2 => exact qq25); rintro e w11 ⟨rfl, hi, hb, hk⟩; refine ⟨_, rfl, ?_⟩; have n0_ := Aside0.mk (KeepBut.blk hk (g' := gb104) (o := .cells #[.int .i64 0, .int .i64 0] 32 (0, 0)) (qq11 BK104.out) NB104_0.out (by simp)); have n1_ := Aside0.mk (KeepBut.trans qq19 hk (.inl rfl)); have n2_ := Aside0.mk (hb); have n3_ := Aside0.mk (hi); clear BK104; clear HK; clear HB; clear HI0; have BK104 := n0_; have HK := n1_; have HB := n2_; have HI0 := n3_; clear n0_ n1_ n2_ n3_; (try clear hb); (try clear hb2); (try clear hk); (try clear hi)) | ((with_reducible refine gate_dst (N := 3) rfl ?_); refine box_event ?hg (N := 3) ?hd (cs := #[.int .i64 0, .int .i64 0]) (t := 32) ?hr ?_; (case hd => rfl); (case hg => rfl); (case hr => exact qq23); intro gb109 hg w12 hbox hb; have n0_ := Aside0.mk (IsS81.below qq26 hb); have n1_ := Aside0.mk (bbl_ BK104.out hb); have n2_ := Aside0.mk (KeepBut.trans qq19 (KeepBut.of_below hb g none) (.inl rfl)); have n3_ := Aside0.mk (below_step qq25 hb); have n4_ := Aside0.mk (hbox); have n5_ := Aside0.mk ((qq58 : w.heap.size ≤ gb109)); have n6_ := Aside0.mk ((Nat.le_trans HW0.out (qq58 : w.heap.size ≤ gb109) : w0.heap.size ≤ gb109)); have n7_ := Aside0.mk ((qq27 BK104.out : gb104 ≠ gb109)); have n8_ := Aside0.mk ((qq28 BK104.out : gb109 ≠ gb104)); have n9_ := Aside0.mk ((qq38 : g ≠ gb109)); have n10_ := Aside0.mk ((qq39 : gb109 ≠ g)); clear HI0; clear BK104; clear HK; clear HB; have HI0 := n0_; have BK104 := n1_; have HK := n2_; have HB := n3_; have BK109 := n4_; have GW109 := n5_; have GE109 := n6_; have NB104_109 := n7_; have NB109_104 := n8_; have NB0_109 := n9_; have NB109_0 := n10_; clear n0_ n1_ n2_ n3_ n4_ n5_ n6_ n7_ n8_ n9_ n10_; clear hb hbox hg; have hnb13 := NB109_104.out; have hnc13 := NB104_109.out; have hnb14 := NB109_0.out; have hnc14 := NB0_109.out; have hcz15_0 : w12.cell? ⟨gb109, 0, none⟩ = some (.int .i64 0) := (blk_cell BK109.out 0).trans rfl; have hcz15_1 : w12.cell? ⟨gb109, 1, none⟩ = some (.int .i64 0) := (blk_cell BK109.out 1).trans rfl; have hfz15_0 := blk_frozen BK109.out 0; have hfz15_1 := blk_frozen BK109.out 1) | ((with_reducible refine gate_callee (f := 48) rfl ?_); refine goesL_ (some 12) rfl rfl Try.func48 (by kernel_rfl) rfl #[.pointer (some ⟨g, 0, none⟩), .int .i64 40] rfl qq3 ?_; (with_reducible refine (spec_l6Rd_pick.calls k g s0_0 t108 40 t110 t111 w0 _ ?side1 ?side2 A4.out).mono ?_); (case side1 => exact qq22); (case side2 => exact qq21); rintro e w16 ⟨rfl, hi, hb, hk⟩; refine ⟨_, rfl, ?_⟩; have n0_ := Aside0.mk (KeepBut.blk hk (g' := gb104) (o := .cells #[.int .i64 0, .int .i64 0] 32 (0, 0)) (qq14 NB104_109.out BK104.out) NB104_0.out (by simp)); have n1_ := Aside0.mk (KeepBut.blk hk (g' := gb109) (o := .cells #[.int .i64 (wrap64 (t105 - 6)), .int .i64 (wrap64 (t107 - 6))] 32 (0, 0)) (qq29 BK109.out) NB109_0.out (by simp)); have n2_ := Aside0.mk (KeepBut.trans qq20 hk (.inl rfl)); have n3_ := Aside0.mk (hb); have n4_ := Aside0.mk (hi); clear BK104; clear BK109; clear HK; clear HB; clear HI0; have BK104 := n0_; have BK109 := n1_; have HK := n2_; have HB := n3_; have HI0 := n4_; clear n0_ n1_ n2_ n3_ n4_; (try clear hb); (try clear hb2); (try clear hk); (try clear hi)) | ((with_reducible refine gate_dst (N := 15) rfl ?_); refine Kd.R_lit (Kd.int .i64) _ 3 ?hg (N := 15) ?hd (xs := ([10000, 10001, (-10001)] : List Int)) (inner := [.int .i64 10000, .int .i64 10001, .int .i64 (-10001)]) (ok := fun _ => True) (okp := fun _ => True) ?hr ?hp (fun _ hk => hk) trivial (Below.refl _ _) (Nat.le_refl _) (by simp) ?_; (case hd => rfl); (case hg => rfl); (case hr => exact qq23); (case hp => exact (Reps.one (show Kd.M (Kd.int .i64) _ _ _ 10000 [.int .i64 10000] from rfl) (Reps.one (show Kd.M (Kd.int .i64) _ _ _ 10001 [.int .i64 10001] from rfl) (Reps.one (show Kd.M (Kd.int .i64) _ _ _ (-10001) [.int .i64 (-10001)] from rfl) (Reps.none _ _))))); intro v113 w17 ho18 hb hg_ hnew_; clear hg_ hnew_; (first | rw [← Ny112.out] at ho18 | (simp only [Int.reduceToNat] at ho18; rw [← Ny112.out] at ho18)); have n0_ := Aside0.mk (Kd.R_lower ho18 (keep_size (w := w) (g := g) (row := none) qq20)); have n1_ := Aside0.mk (IsS81.below qq22 hb); have n2_ := Aside0.mk (bbl_ BK104.out hb); have n3_ := Aside0.mk (bbl_ BK109.out hb); have n4_ := Aside0.mk (KeepBut.trans qq20 (KeepBut.of_below hb g none) (.inl rfl)); have n5_ := Aside0.mk (below_step qq21 hb); clear HI0; clear BK104; clear BK109; clear HK; clear HB; have HO114 := n0_; have HI0 := n1_; have BK104 := n2_; have BK109 := n3_; have HK := n4_; have HB := n5_; clear n0_ n1_ n2_ n3_ n4_ n5_; clear hb ho18) | ((with_reducible refine gate_callee (f := 48) rfl ?_); refine goesL_ (some 17) rfl rfl Try.func48 (by kernel_rfl) rfl #[.pointer (some ⟨g, 0, none⟩), .int .i64 3] rfl qq3 ?_; (with_reducible refine (spec_l6Rd_pick.calls k g s0_0 t111 3 t115 t116 w0 _ ?side1 ?side2 A6.out).mono ?_); (case side1 => exact qq22); (case side2 => exact qq21); rintro e w19 ⟨rfl, hi, hb, hk⟩; refine ⟨_, rfl, ?_⟩; have n0_ := Aside0.mk (KeepBut.blk hk (g' := gb104) (o := .cells #[.int .i64 0, .int .i64 0] 32 (0, 0)) (qq11 BK104.out) NB104_0.out (by simp)); have n1_ := Aside0.mk (KeepBut.blk hk (g' := gb109) (o := .cells #[.int .i64 (wrap64 (t105 - 6)), .int .i64 (wrap64 (t107 - 6))] 32 (0, 0)) (qq11 BK109.out) NB109_0.out (by simp)); have n2_ := Aside0.mk (Kd.R_mono (Kd.R_keep (IsS81.apart (show IsS81 w0 _ g s0_0 t111 from by repeat (first | (with_reducible first | exact HI0.out | apply IsS81.alloc | apply IsS81.drewN | apply IsS81.drew | apply IsS81.set_1 | refine IsS81.far ?_ NB0_104.out _ | refine IsS81.far ?_ NB0_109.out _) | exact HI0.out)) (qq9 HO114.out) (by decide)) hk (fun _ h => h.2)) (fun _ h => h.1)); have n3_ := Aside0.mk (KeepBut.trans qq20 hk (.inl rfl)); have n4_ := Aside0.mk (hb); have n5_ := Aside0.mk (hi); clear BK104; clear BK109; clear HO114; clear HK; clear HB; clear HI0; have BK104 := n0_; have BK109 := n1_; have HO114 := n2_; have HK := n3_; have HB := n4_; have HI0 := n5_; clear n0_ n1_ n2_ n3_ n4_ n5_; (try clear hb); (try clear hb2); (try clear hk); (try clear hi); obtain ⟨Ao20, co20, eo20⟩ := Kd.R_slice HO114.out; subst eo20; have p117 : 0 ≤ (t115 : Int) := of_decide_eq_true qq10; have q117 : t115 < (y112.length : Int) := of_decide_eq_true qq10; obtain ⟨ad117, e117, hx117_0⟩ := Kd.at_int (Kd.R_reads' HO114.out).2.2 t115 p117 q117; cases e117; replace p117 := eq_true p117; replace q117 := eq_true q117; have hcz21_0 : w19.cell? ⟨gb109, 0, none⟩ = some (.int .i64 (wrap64 (t105 - 6))) := (blk_cell BK109.out 0).trans rfl; have hcz21_1 : w19.cell? ⟨gb109, 1, none⟩ = some (.int .i64 (wrap64 (t107 - 6))) := (blk_cell BK109.out 1).trans rfl; have hfz21_0 := blk_frozen BK109.out 0; have hfz21_1 := blk_frozen BK109.out 1; have hnb22 := NB104_0.out; have hnc22 := NB0_104.out; have hcz23_0 : w19.cell? ⟨gb104, 0, none⟩ = some (.int .i64 0) := (blk_cell BK104.out 0).trans rfl; have hcz23_1 : w19.cell? ⟨gb104, 1, none⟩ = some (.int .i64 0) := (blk_cell BK104.out 1).trans rfl; have hfz23_0 := blk_frozen BK104.out 0; have hfz23_1 := blk_frozen BK104.out 1))
        refine bodyPost_ret (results_cell_row rfl _ _ gb104 32 #[.int .i64 (rd y112 t115), .int .i64 (wrap64 (t107 - 6))] (0, 0) _ rfl (by (with_reducible repeat (first | refine blk_drewN ?_ _ | refine blk_drew ?_ | refine blk_alloc ?_ _)); refine blk_put (cs := #[.int .i64 (rd y112 t115), .int .i64 0]) ?_ 1 _ rfl; (with_reducible repeat (first | refine blk_drewN ?_ _ | refine blk_drew ?_ | refine blk_alloc ?_ _)); refine blk_put (cs := #[.int .i64 0, .int .i64 0]) ?_ 0 _ rfl; (with_reducible repeat (first | refine blk_drewN ?_ _ | refine blk_drew ?_ | refine blk_alloc ?_ _)); refine blk_far ?_ NB104_109.out _; (with_reducible repeat (first | refine blk_drewN ?_ _ | refine blk_drew ?_ | refine blk_alloc ?_ _)); exact BK104.out) Try.underlying32 rfl (by kernel_rfl)) rfl ?_
        exact ⟨qq13, qq22, qq21, qq20⟩
      · rw [if_neg c8] at H
        exact absurd H (by simp)
    · rw [if_neg c7] at H
      exact absurd H (by simp)
  · rw [if_neg c5] at H
    have c5b0 : (t110 == 0) = false := beq_eq_false_iff_ne.mpr c5
    have c5b1 : (t110 != 0) = true := bne_iff_ne.mpr c5
    by_cases c24 : t110 = 1
    · rw [if_pos c24] at H
      have c24b0 : (t110 == 1) = true := beq_iff_eq.mpr c24
      have c24b1 : (t110 != 1) = false := bne_eq_false_iff_eq.mpr c24
      clear c24
      replace H := Option.bind_eq_some_iff.mp H
      obtain ⟨⟨t118, t119⟩, A250, H⟩ := H
      replace H : ((spec_l6Rd_pick.f k s0_0 t119 200).bind fun bt120 => (some (wrap64 ((wrap64 (t118 * 50)) - 5000), wrap64 ((wrap64 (bt120.1 * 50)) - 5000), bt120.2))) = some (r1, r2, r3) := H
      have A25 := Aside0.mk A250
      clear A250
      replace H := Option.bind_eq_some_iff.mp H
      obtain ⟨⟨t120, t121⟩, A260, H⟩ := H
      replace H : (some (wrap64 ((wrap64 (t118 * 50)) - 5000), wrap64 ((wrap64 (t120 * 50)) - 5000), t121)) = some (r1, r2, r3) := H
      have A26 := Aside0.mk A260
      clear A260
      simp only [Option.some.injEq, Prod.mk.injEq] at H
      obtain ⟨rfl, rfl, rfl⟩ := H
      go_enter Try.func55, Try.ntmps55
      go_wp2_with (first | ((with_reducible refine gate_dst (N := 2) rfl ?_); refine box_event ?hg (N := 2) ?hd (cs := #[.int .i64 0, .int .i64 0]) (t := 32) ?hr ?_; (case hd => rfl); (case hg => rfl); (case hr => exact qq23); intro gb104 hg w27 hbox hb; have n0_ := Aside0.mk (IsS81.below qq7 hb); have n1_ := Aside0.mk (KeepBut.trans qq4 (KeepBut.of_below hb g none) (.inl rfl)); have n2_ := Aside0.mk (below_step (qq5 HB.out HI0.out) hb); have n3_ := Aside0.mk (hbox); have n4_ := Aside0.mk ((qq59 : w.heap.size ≤ gb104)); have n5_ := Aside0.mk ((Nat.le_trans HW0.out (qq59 : w.heap.size ≤ gb104) : w0.heap.size ≤ gb104)); have n6_ := Aside0.mk ((qq43 : g ≠ gb104)); have n7_ := Aside0.mk ((qq44 : gb104 ≠ g)); clear HI0; clear HK; clear HB; have HI0 := n0_; have HK := n1_; have HB := n2_; have BK104 := n3_; have GW104 := n4_; have GE104 := n5_; have NB0_104 := n6_; have NB104_0 := n7_; clear n0_ n1_ n2_ n3_ n4_ n5_ n6_ n7_; clear hb hbox hg) | ((with_reducible refine gate_callee (f := 48) rfl ?_); refine goesL_ (some 5) rfl rfl Try.func48 (by kernel_rfl) rfl #[.pointer (some ⟨g, 0, none⟩), .int .i64 13] rfl qq3 ?_; (with_reducible refine (spec_l6Rd_pick.calls k g s0_0 s0_1 13 t105 t106 w0 _ ?side1 ?side2 A2.out).mono ?_); (case side1 => exact qq26); (case side2 => exact qq25); rintro e w28 ⟨rfl, hi, hb, hk⟩; refine ⟨_, rfl, ?_⟩; have n0_ := Aside0.mk (KeepBut.blk hk (g' := gb104) (o := .cells #[.int .i64 0, .int .i64 0] 32 (0, 0)) (qq11 BK104.out) NB104_0.out (by simp)); have n1_ := Aside0.mk (KeepBut.trans qq19 hk (.inl rfl)); have n2_ := Aside0.mk (hb); have n3_ := Aside0.mk (hi); clear BK104; clear HK; clear HB; clear HI0; have BK104 := n0_; have HK := n1_; have HB := n2_; have HI0 := n3_; clear n0_ n1_ n2_ n3_; (try clear hb); (try clear hb2); (try clear hk); (try clear hi)) | ((with_reducible refine gate_callee (f := 48) rfl ?_); refine goesL_ (some 8) rfl rfl Try.func48 (by kernel_rfl) rfl #[.pointer (some ⟨g, 0, none⟩), .int .i64 13] rfl qq3 ?_; (with_reducible refine (spec_l6Rd_pick.calls k g s0_0 t106 13 t107 t108 w0 _ ?side1 ?side2 A3.out).mono ?_); (case side1 => exact qq26); (case side2 => exact qq25); rintro e w29 ⟨rfl, hi, hb, hk⟩; refine ⟨_, rfl, ?_⟩; have n0_ := Aside0.mk (KeepBut.blk hk (g' := gb104) (o := .cells #[.int .i64 0, .int .i64 0] 32 (0, 0)) (qq11 BK104.out) NB104_0.out (by simp)); have n1_ := Aside0.mk (KeepBut.trans qq19 hk (.inl rfl)); have n2_ := Aside0.mk (hb); have n3_ := Aside0.mk (hi); clear BK104; clear HK; clear HB; clear HI0; have BK104 := n0_; have HK := n1_; have HB := n2_; have HI0 := n3_; clear n0_ n1_ n2_ n3_; (try clear hb); (try clear hb2); (try clear hk); (try clear hi)) | ((with_reducible refine gate_dst (N := 3) rfl ?_); refine box_event ?hg (N := 3) ?hd (cs := #[.int .i64 0, .int .i64 0]) (t := 32) ?hr ?_; (case hd => rfl); (case hg => rfl); (case hr => exact qq23); intro gb109 hg w30 hbox hb; have n0_ := Aside0.mk (IsS81.below qq26 hb); have n1_ := Aside0.mk (bbl_ BK104.out hb); have n2_ := Aside0.mk (KeepBut.trans qq19 (KeepBut.of_below hb g none) (.inl rfl)); have n3_ := Aside0.mk (below_step qq25 hb); have n4_ := Aside0.mk (hbox); have n5_ := Aside0.mk ((qq58 : w.heap.size ≤ gb109)); have n6_ := Aside0.mk ((Nat.le_trans HW0.out (qq58 : w.heap.size ≤ gb109) : w0.heap.size ≤ gb109)); have n7_ := Aside0.mk ((qq27 BK104.out : gb104 ≠ gb109)); have n8_ := Aside0.mk ((qq28 BK104.out : gb109 ≠ gb104)); have n9_ := Aside0.mk ((qq38 : g ≠ gb109)); have n10_ := Aside0.mk ((qq39 : gb109 ≠ g)); clear HI0; clear BK104; clear HK; clear HB; have HI0 := n0_; have BK104 := n1_; have HK := n2_; have HB := n3_; have BK109 := n4_; have GW109 := n5_; have GE109 := n6_; have NB104_109 := n7_; have NB109_104 := n8_; have NB0_109 := n9_; have NB109_0 := n10_; clear n0_ n1_ n2_ n3_ n4_ n5_ n6_ n7_ n8_ n9_ n10_; clear hb hbox hg; have hnb31 := NB109_104.out; have hnc31 := NB104_109.out; have hnb32 := NB109_0.out; have hnc32 := NB0_109.out; have hcz33_0 : w30.cell? ⟨gb109, 0, none⟩ = some (.int .i64 0) := (blk_cell BK109.out 0).trans rfl; have hcz33_1 : w30.cell? ⟨gb109, 1, none⟩ = some (.int .i64 0) := (blk_cell BK109.out 1).trans rfl; have hfz33_0 := blk_frozen BK109.out 0; have hfz33_1 := blk_frozen BK109.out 1) | ((with_reducible refine gate_callee (f := 48) rfl ?_); refine goesL_ (some 12) rfl rfl Try.func48 (by kernel_rfl) rfl #[.pointer (some ⟨g, 0, none⟩), .int .i64 40] rfl qq3 ?_; (with_reducible refine (spec_l6Rd_pick.calls k g s0_0 t108 40 t110 t111 w0 _ ?side1 ?side2 A4.out).mono ?_); (case side1 => exact qq22); (case side2 => exact qq21); rintro e w34 ⟨rfl, hi, hb, hk⟩; refine ⟨_, rfl, ?_⟩; have n0_ := Aside0.mk (KeepBut.blk hk (g' := gb104) (o := .cells #[.int .i64 0, .int .i64 0] 32 (0, 0)) (qq14 NB104_109.out BK104.out) NB104_0.out (by simp)); have n1_ := Aside0.mk (KeepBut.blk hk (g' := gb109) (o := .cells #[.int .i64 (wrap64 (t105 - 6)), .int .i64 (wrap64 (t107 - 6))] 32 (0, 0)) (qq29 BK109.out) NB109_0.out (by simp)); have n2_ := Aside0.mk (KeepBut.trans qq20 hk (.inl rfl)); have n3_ := Aside0.mk (hb); have n4_ := Aside0.mk (hi); clear BK104; clear BK109; clear HK; clear HB; clear HI0; have BK104 := n0_; have BK109 := n1_; have HK := n2_; have HB := n3_; have HI0 := n4_; clear n0_ n1_ n2_ n3_ n4_; (try clear hb); (try clear hb2); (try clear hk); (try clear hi)) | ((with_reducible refine gate_callee (f := 48) rfl ?_); refine goesL_ (some 24) rfl rfl Try.func48 (by kernel_rfl) rfl #[.pointer (some ⟨g, 0, none⟩), .int .i64 200] rfl qq3 ?_; (with_reducible refine (spec_l6Rd_pick.calls k g s0_0 t111 200 t118 t119 w0 _ ?side1 ?side2 A25.out).mono ?_); (case side1 => exact qq22); (case side2 => exact qq21); rintro e w35 ⟨rfl, hi, hb, hk⟩; refine ⟨_, rfl, ?_⟩; have n0_ := Aside0.mk (KeepBut.blk hk (g' := gb104) (o := .cells #[.int .i64 0, .int .i64 0] 32 (0, 0)) (qq11 BK104.out) NB104_0.out (by simp)); have n1_ := Aside0.mk (KeepBut.blk hk (g' := gb109) (o := .cells #[.int .i64 (wrap64 (t105 - 6)), .int .i64 (wrap64 (t107 - 6))] 32 (0, 0)) (qq11 BK109.out) NB109_0.out (by simp)); have n2_ := Aside0.mk (KeepBut.trans qq20 hk (.inl rfl)); have n3_ := Aside0.mk (hb); have n4_ := Aside0.mk (hi); clear BK104; clear BK109; clear HK; clear HB; clear HI0; have BK104 := n0_; have BK109 := n1_; have HK := n2_; have HB := n3_; have HI0 := n4_; clear n0_ n1_ n2_ n3_ n4_; (try clear hb); (try clear hb2); (try clear hk); (try clear hi)) | ((with_reducible refine gate_callee (f := 48) rfl ?_); refine goesL_ (some 28) rfl rfl Try.func48 (by kernel_rfl) rfl #[.pointer (some ⟨g, 0, none⟩), .int .i64 200] rfl qq3 ?_; (with_reducible refine (spec_l6Rd_pick.calls k g s0_0 t119 200 t120 t121 w0 _ ?side1 ?side2 A26.out).mono ?_); (case side1 => exact qq22); (case side2 => exact qq21); rintro e w36 ⟨rfl, hi, hb, hk⟩; refine ⟨_, rfl, ?_⟩; have n0_ := Aside0.mk (KeepBut.blk hk (g' := gb104) (o := .cells #[.int .i64 0, .int .i64 0] 32 (0, 0)) (qq11 BK104.out) NB104_0.out (by simp)); have n1_ := Aside0.mk (KeepBut.blk hk (g' := gb109) (o := .cells #[.int .i64 (wrap64 (t105 - 6)), .int .i64 (wrap64 (t107 - 6))] 32 (0, 0)) (qq11 BK109.out) NB109_0.out (by simp)); have n2_ := Aside0.mk (KeepBut.trans qq20 hk (.inl rfl)); have n3_ := Aside0.mk (hb); have n4_ := Aside0.mk (hi); clear BK104; clear BK109; clear HK; clear HB; clear HI0; have BK104 := n0_; have BK109 := n1_; have HK := n2_; have HB := n3_; have HI0 := n4_; clear n0_ n1_ n2_ n3_ n4_; (try clear hb); (try clear hb2); (try clear hk); (try clear hi); have hnb37 := NB104_0.out; have hnc37 := NB0_104.out; have hcz38_0 : w36.cell? ⟨gb104, 0, none⟩ = some (.int .i64 0) := (blk_cell BK104.out 0).trans rfl; have hcz38_1 : w36.cell? ⟨gb104, 1, none⟩ = some (.int .i64 0) := (blk_cell BK104.out 1).trans rfl; have hfz38_0 := blk_frozen BK104.out 0; have hfz38_1 := blk_frozen BK104.out 1))
      refine bodyPost_ret (results_cell_row rfl _ _ gb104 32 #[.int .i64 (wrap64 ((wrap64 (t118 * 50)) - 5000)), .int .i64 (wrap64 ((wrap64 (t120 * 50)) - 5000))] (0, 0) _ rfl (by (with_reducible repeat (first | refine blk_drewN ?_ _ | refine blk_drew ?_ | refine blk_alloc ?_ _)); refine blk_put (cs := #[.int .i64 (wrap64 ((wrap64 (t118 * 50)) - 5000)), .int .i64 0]) ?_ 1 _ rfl; (with_reducible repeat (first | refine blk_drewN ?_ _ | refine blk_drew ?_ | refine blk_alloc ?_ _)); refine blk_put (cs := #[.int .i64 0, .int .i64 0]) ?_ 0 _ rfl; (with_reducible repeat (first | refine blk_drewN ?_ _ | refine blk_drew ?_ | refine blk_alloc ?_ _)); exact BK104.out) Try.underlying32 rfl (by kernel_rfl)) rfl ?_
      exact ⟨qq13, qq22, qq21, qq20⟩
    · rw [if_neg c24] at H
      have c24b0 : (t110 == 1) = false := beq_eq_false_iff_ne.mpr c24
      have c24b1 : (t110 != 1) = true := bne_iff_ne.mpr c24
      simp only [Option.some.injEq, Prod.mk.injEq] at H
      obtain ⟨rfl, rfl, rfl⟩ := H
      go_enter Try.func55, Try.ntmps55
      go_wp2_with (first | ((with_reducible refine gate_dst (N := 2) rfl ?_); refine box_event ?hg (N := 2) ?hd (cs := #[.int .i64 0, .int .i64 0]) (t := 32) ?hr ?_; (case hd => rfl); (case hg => rfl); (case hr => exact qq23); intro gb104 hg w39 hbox hb; have n0_ := Aside0.mk (IsS81.below qq7 hb); have n1_ := Aside0.mk (KeepBut.trans qq4 (KeepBut.of_below hb g none) (.inl rfl)); have n2_ := Aside0.mk (below_step (qq5 HB.out HI0.out) hb); have n3_ := Aside0.mk (hbox); have n4_ := Aside0.mk ((qq59 : w.heap.size ≤ gb104)); have n5_ := Aside0.mk ((Nat.le_trans HW0.out (qq59 : w.heap.size ≤ gb104) : w0.heap.size ≤ gb104)); have n6_ := Aside0.mk ((qq43 : g ≠ gb104)); have n7_ := Aside0.mk ((qq44 : gb104 ≠ g)); clear HI0; clear HK; clear HB; have HI0 := n0_; have HK := n1_; have HB := n2_; have BK104 := n3_; have GW104 := n4_; have GE104 := n5_; have NB0_104 := n6_; have NB104_0 := n7_; clear n0_ n1_ n2_ n3_ n4_ n5_ n6_ n7_; clear hb hbox hg) | ((with_reducible refine gate_callee (f := 48) rfl ?_); refine goesL_ (some 5) rfl rfl Try.func48 (by kernel_rfl) rfl #[.pointer (some ⟨g, 0, none⟩), .int .i64 13] rfl qq3 ?_; (with_reducible refine (spec_l6Rd_pick.calls k g s0_0 s0_1 13 t105 t106 w0 _ ?side1 ?side2 A2.out).mono ?_); (case side1 => exact qq26); (case side2 => exact qq25); rintro e w40 ⟨rfl, hi, hb, hk⟩; refine ⟨_, rfl, ?_⟩; have n0_ := Aside0.mk (KeepBut.blk hk (g' := gb104) (o := .cells #[.int .i64 0, .int .i64 0] 32 (0, 0)) (qq11 BK104.out) NB104_0.out (by simp)); have n1_ := Aside0.mk (KeepBut.trans qq19 hk (.inl rfl)); have n2_ := Aside0.mk (hb); have n3_ := Aside0.mk (hi); clear BK104; clear HK; clear HB; clear HI0; have BK104 := n0_; have HK := n1_; have HB := n2_; have HI0 := n3_; clear n0_ n1_ n2_ n3_; (try clear hb); (try clear hb2); (try clear hk); (try clear hi)) | ((with_reducible refine gate_callee (f := 48) rfl ?_); refine goesL_ (some 8) rfl rfl Try.func48 (by kernel_rfl) rfl #[.pointer (some ⟨g, 0, none⟩), .int .i64 13] rfl qq3 ?_; (with_reducible refine (spec_l6Rd_pick.calls k g s0_0 t106 13 t107 t108 w0 _ ?side1 ?side2 A3.out).mono ?_); (case side1 => exact qq26); (case side2 => exact qq25); rintro e w41 ⟨rfl, hi, hb, hk⟩; refine ⟨_, rfl, ?_⟩; have n0_ := Aside0.mk (KeepBut.blk hk (g' := gb104) (o := .cells #[.int .i64 0, .int .i64 0] 32 (0, 0)) (qq11 BK104.out) NB104_0.out (by simp)); have n1_ := Aside0.mk (KeepBut.trans qq19 hk (.inl rfl)); have n2_ := Aside0.mk (hb); have n3_ := Aside0.mk (hi); clear BK104; clear HK; clear HB; clear HI0; have BK104 := n0_; have HK := n1_; have HB := n2_; have HI0 := n3_; clear n0_ n1_ n2_ n3_; (try clear hb); (try clear hb2); (try clear hk); (try clear hi)) | ((with_reducible refine gate_dst (N := 3) rfl ?_); refine box_event ?hg (N := 3) ?hd (cs := #[.int .i64 0, .int .i64 0]) (t := 32) ?hr ?_; (case hd => rfl); (case hg => rfl); (case hr => exact qq23); intro gb109 hg w42 hbox hb; have n0_ := Aside0.mk (IsS81.below qq26 hb); have n1_ := Aside0.mk (bbl_ BK104.out hb); have n2_ := Aside0.mk (KeepBut.trans qq19 (KeepBut.of_below hb g none) (.inl rfl)); have n3_ := Aside0.mk (below_step qq25 hb); have n4_ := Aside0.mk (hbox); have n5_ := Aside0.mk ((qq58 : w.heap.size ≤ gb109)); have n6_ := Aside0.mk ((Nat.le_trans HW0.out (qq58 : w.heap.size ≤ gb109) : w0.heap.size ≤ gb109)); have n7_ := Aside0.mk ((qq27 BK104.out : gb104 ≠ gb109)); have n8_ := Aside0.mk ((qq28 BK104.out : gb109 ≠ gb104)); have n9_ := Aside0.mk ((qq38 : g ≠ gb109)); have n10_ := Aside0.mk ((qq39 : gb109 ≠ g)); clear HI0; clear BK104; clear HK; clear HB; have HI0 := n0_; have BK104 := n1_; have HK := n2_; have HB := n3_; have BK109 := n4_; have GW109 := n5_; have GE109 := n6_; have NB104_109 := n7_; have NB109_104 := n8_; have NB0_109 := n9_; have NB109_0 := n10_; clear n0_ n1_ n2_ n3_ n4_ n5_ n6_ n7_ n8_ n9_ n10_; clear hb hbox hg; have hnb43 := NB109_104.out; have hnc43 := NB104_109.out; have hnb44 := NB109_0.out; have hnc44 := NB0_109.out; have hcz45_0 : w42.cell? ⟨gb109, 0, none⟩ = some (.int .i64 0) := (blk_cell BK109.out 0).trans rfl; have hcz45_1 : w42.cell? ⟨gb109, 1, none⟩ = some (.int .i64 0) := (blk_cell BK109.out 1).trans rfl; have hfz45_0 := blk_frozen BK109.out 0; have hfz45_1 := blk_frozen BK109.out 1) | ((with_reducible refine gate_callee (f := 48) rfl ?_); refine goesL_ (some 12) rfl rfl Try.func48 (by kernel_rfl) rfl #[.pointer (some ⟨g, 0, none⟩), .int .i64 40] rfl qq3 ?_; (with_reducible refine (spec_l6Rd_pick.calls k g s0_0 t108 40 t110 t111 w0 _ ?side1 ?side2 A4.out).mono ?_); (case side1 => exact qq22); (case side2 => exact qq21); rintro e w46 ⟨rfl, hi, hb, hk⟩; refine ⟨_, rfl, ?_⟩; have n0_ := Aside0.mk (KeepBut.blk hk (g' := gb104) (o := .cells #[.int .i64 0, .int .i64 0] 32 (0, 0)) (qq14 NB104_109.out BK104.out) NB104_0.out (by simp)); have n1_ := Aside0.mk (KeepBut.blk hk (g' := gb109) (o := .cells #[.int .i64 (wrap64 (t105 - 6)), .int .i64 (wrap64 (t107 - 6))] 32 (0, 0)) (qq29 BK109.out) NB109_0.out (by simp)); have n2_ := Aside0.mk (KeepBut.trans qq20 hk (.inl rfl)); have n3_ := Aside0.mk (hb); have n4_ := Aside0.mk (hi); clear BK104; clear BK109; clear HK; clear HB; clear HI0; have BK104 := n0_; have BK109 := n1_; have HK := n2_; have HB := n3_; have HI0 := n4_; clear n0_ n1_ n2_ n3_ n4_; (try clear hb); (try clear hb2); (try clear hk); (try clear hi); have hcz47_0 : w46.cell? ⟨gb109, 0, none⟩ = some (.int .i64 (wrap64 (t105 - 6))) := (blk_cell BK109.out 0).trans rfl; have hcz47_1 : w46.cell? ⟨gb109, 1, none⟩ = some (.int .i64 (wrap64 (t107 - 6))) := (blk_cell BK109.out 1).trans rfl; have hfz47_0 := blk_frozen BK109.out 0; have hfz47_1 := blk_frozen BK109.out 1; have hnb48 := NB104_0.out; have hnc48 := NB0_104.out; have hcz49_0 : w46.cell? ⟨gb104, 0, none⟩ = some (.int .i64 0) := (blk_cell BK104.out 0).trans rfl; have hcz49_1 : w46.cell? ⟨gb104, 1, none⟩ = some (.int .i64 0) := (blk_cell BK104.out 1).trans rfl; have hfz49_0 := blk_frozen BK104.out 0; have hfz49_1 := blk_frozen BK104.out 1))
      refine bodyPost_ret (results_cell_row rfl _ _ gb104 32 #[.int .i64 (wrap64 (t105 - 6)), .int .i64 (wrap64 (t107 - 6))] (0, 0) _ rfl (qq29 BK104.out) Try.underlying32 rfl (by kernel_rfl)) rfl ?_
      exact ⟨qq13, qq22, qq21, qq20⟩

end Go.Proofs.Ytgdhgncdpmalcaa.Q
namespace Go.Proofs.Ytgdhgncdpmalcaa.Q
open Go.RowKit Go.Proofs.YtgdhgncdpmalcaaW.PrintWords Go.Proofs.YtgdhgncdpmalcaaW.PrintLast Go.Proofs.YtgdhgncdpmalcaaW.PrintMore
attribute [local go_sem] max2_int min2_int max_two min_two max_three min_three max_four min_four
set_option linter.unusedVariables false
set_option linter.unusedSimpArgs false

/-! ### spec_l92Star: function 72 -/
def spec_l92Star.l0 : Nat → List (S32) → List (S32) → Int → List Int → Int → Option ((List (S32)) × Int)
  | 0, _, _, _, _, _ => none
  | k + 1, x3, x4, x5, x1000, x1001 => if x5 < (x3.length : Int) then (if (Int.tmod x5 4) = 0 then ((spec_l6Rd_pick.f k x1000 x1001 3).bind fun bt128 => (if 0 ≤ x5 then (if x4.length < 8796093022208 then (spec_l92Star.l0 k x3 (x4 ++ [(⟨wrap64 ((wrap64 (1 + bt128.1)) * ((rd_T32 x3 x5).f0)), wrap64 ((wrap64 (1 + bt128.1)) * ((rd_T32 x3 x5).f1))⟩ : S32)]) (wrap64 (x5 + 1)) x1000 bt128.2) else (none)) else (none))) else ((spec_l6Rd_pick.f k x1000 x1001 3).bind fun bt135 => (if bt135.1 = 0 then ((spec_l6Rd_pick.f k x1000 bt135.2 3).bind fun bt137 => (if 0 ≤ x5 then (if x4.length < 8796093022208 then (spec_l92Star.l0 k x3 (x4 ++ [(⟨wrap64 ((wrap64 (1 + bt137.1)) * ((rd_T32 x3 x5).f0)), wrap64 ((wrap64 (1 + bt137.1)) * ((rd_T32 x3 x5).f1))⟩ : S32)]) (wrap64 (x5 + 1)) x1000 bt137.2) else (none)) else (none))) else (spec_l92Star.l0 k x3 x4 (wrap64 (x5 + 1)) x1000 bt135.2)))) else (some (x4, x1001))
def spec_l92Star.f (k : Nat) (s0_0 : List Int) (s0_1 : Int) : Option ((List (S32)) × Int) := spec_l92Star.l0 k (([(⟨2, 0⟩ : S32), (⟨2, 1⟩ : S32), (⟨1, 2⟩ : S32), (⟨0, 2⟩ : S32), (⟨(-1), 2⟩ : S32), (⟨(-2), 1⟩ : S32), (⟨(-2), 0⟩ : S32), (⟨(-2), (-1)⟩ : S32), (⟨(-1), (-2)⟩ : S32), (⟨0, (-2)⟩ : S32), (⟨1, (-2)⟩ : S32), (⟨2, (-1)⟩ : S32)] : List (S32))) (([] : List (S32))) 0 s0_0 s0_1
def spec_l92Star.T8 : Bool × List (List Nat × List Nat) := (true, [([], []), ([], []), ([], []), ([], []), ([2, 3], [2, 3]), ([4], [4]), ([5], [5]), ([1, 6], [1, 6]), ([], []), ([], []), ([], []), ([9, 10], [9, 10]), ([11], [11]), ([12], [12]), ([8, 13], [8, 13]), ([7, 14], [7, 14]), ([15], [15]), ([0, 16], [0, 16]), ([17, 17, 0, 1, 2, 3, 4, 5, 6, 7, 8, 9, 10, 11, 12, 13, 14, 15, 16, 17], [0, 17])])
def spec_l92Star.B8 : List Nat := [0, 0, 0, 0, 12, 28, 60, 126, 0, 0, 0, 1536, 3584, 7680, 16128, 32766, 65534, 131071, 262143]
theorem spec_l92Star.tab8 : rtab .any (opsOf Try.f72 8) = spec_l92Star.T8 := by kernel_rfl
theorem spec_l92Star.bits8 : waitsOk spec_l92Star.T8.2 spec_l92Star.B8 = true := by kernel_rfl
set_option maxHeartbeats 8000000 in
set_option maxRecDepth 100000 in
theorem spec_l92Star.calls (k : Nat) (g : Nat) (s0_0 : List Int) (s0_1 : Int) (r1 : List (S32)) (r2 : Int) (w0 w : World) (hI : IsS81 w0 w g s0_0 s0_1) (hB : Below w0.heap.size w0 w) (h : spec_l92Star.f k s0_0 s0_1 = some (r1, r2)) :
    Calls Try.prog 72 #[.pointer (some ⟨g, 0, none⟩)] w fun e w' => ∃ v0_ : Value, e = .returned (v0_) ∧ Kd.R k32 32 w' w.heap.size (fun _ => True) v0_ r1 ∧ IsS81 w0 w' g s0_0 r2 ∧ Below w0.heap.size w0 w' ∧ KeepBut w w' g none := by
  have hu32 := Try.underlying32
  have HI0 := Aside0.mk hI
  have HK := Aside0.mk (KeepBut.refl w g none)
  have HL := Aside0.mk hB.size
  clear hI
  have HW0 := Aside0.mk hB.size
  have HB := Aside0.mk hB
  clear hB
  have H : (spec_l92Star.l0 k (([(⟨2, 0⟩ : S32), (⟨2, 1⟩ : S32), (⟨1, 2⟩ : S32), (⟨0, 2⟩ : S32), (⟨(-1), 2⟩ : S32), (⟨(-2), 1⟩ : S32), (⟨(-2), 0⟩ : S32), (⟨(-2), (-1)⟩ : S32), (⟨(-1), (-2)⟩ : S32), (⟨0, (-2)⟩ : S32), (⟨1, (-2)⟩ : S32), (⟨2, (-1)⟩ : S32)] : List (S32))) (([] : List (S32))) 0 s0_0 s0_1) = some (r1, r2) := h
  clear h
  obtain ⟨y122, hy122⟩ : ∃ y_ : List (S32), y_ = (([(⟨2, 0⟩ : S32), (⟨2, 1⟩ : S32), (⟨1, 2⟩ : S32), (⟨0, 2⟩ : S32), (⟨(-1), 2⟩ : S32), (⟨(-2), 1⟩ : S32), (⟨(-2), 0⟩ : S32), (⟨(-2), (-1)⟩ : S32), (⟨(-1), (-2)⟩ : S32), (⟨0, (-2)⟩ : S32), (⟨1, (-2)⟩ : S32), (⟨2, (-1)⟩ : S32)] : List (S32))) := ⟨_, rfl⟩
  replace H : (spec_l92Star.l0 k y122 (([] : List (S32))) 0 s0_0 s0_1) = some (r1, r2) := by first | (rw [hy122]; with_reducible exact H) | (have H2_ := (Option.bind_some _ _).symm.trans H; rw [hy122]; with_reducible exact H2_) | (have H2_ := (Option.bind_some _ _).symm.trans H; with_reducible exact H2_) | with_reducible exact H | (rw [hy122]; exact H) | exact H
  have Ny122 := Aside0.mk hy122
  clear hy122
  obtain ⟨y125, hy125⟩ : ∃ y_ : List (S32), y_ = (([] : List (S32))) := ⟨_, rfl⟩
  replace H : (spec_l92Star.l0 k y122 y125 0 s0_0 s0_1) = some (r1, r2) := by first | (rw [hy125]; with_reducible exact H) | (have H2_ := (Option.bind_some _ _).symm.trans H; rw [hy125]; with_reducible exact H2_) | (have H2_ := (Option.bind_some _ _).symm.trans H; with_reducible exact H2_) | with_reducible exact H | (rw [hy125]; exact H) | exact H
  have Ny125 := Aside0.mk hy125
  clear hy125
  have H' := Aside0.mk H
  clear H
  go_enter Try.func72, Try.ntmps72
  go_wp2_with (first | ((with_reducible refine gate_dst (N := 19) rfl ?_); refine Kd.R_lit k32 _ 32 ?hg (N := 19) ?hd (xs := ([(⟨2, 0⟩ : S32), (⟨2, 1⟩ : S32), (⟨1, 2⟩ : S32), (⟨0, 2⟩ : S32), (⟨(-1), 2⟩ : S32), (⟨(-2), 1⟩ : S32), (⟨(-2), 0⟩ : S32), (⟨(-2), (-1)⟩ : S32), (⟨(-1), (-2)⟩ : S32), (⟨0, (-2)⟩ : S32), (⟨1, (-2)⟩ : S32), (⟨2, (-1)⟩ : S32)] : List (S32))) (inner := [.int .i64 2, .int .i64 0, .int .i64 2, .int .i64 1, .int .i64 1, .int .i64 2, .int .i64 0, .int .i64 2, .int .i64 (-1), .int .i64 2, .int .i64 (-2), .int .i64 1, .int .i64 (-2), .int .i64 0, .int .i64 (-2), .int .i64 (-1), .int .i64 (-1), .int .i64 (-2), .int .i64 0, .int .i64 (-2), .int .i64 1, .int .i64 (-2), .int .i64 2, .int .i64 (-1)]) (ok := fun _ => True) (okp := fun _ => True) ?hr ?hp (fun _ hk => hk) trivial (Below.refl _ _) (Nat.le_refl _) (by simp) ?_; (case hd => rfl); (case hg => rfl); (case hr => exact qq23); (case hp => exact (Reps.c2 (show Kd.M k32 _ _ _ (⟨2, 0⟩ : S32) [.int .i64 2, .int .i64 0] from (k32_mkM _ _ _ (⟨2, 0⟩ : S32) )) (Reps.c2 (show Kd.M k32 _ _ _ (⟨2, 1⟩ : S32) [.int .i64 2, .int .i64 1] from (k32_mkM _ _ _ (⟨2, 1⟩ : S32) )) (Reps.c2 (show Kd.M k32 _ _ _ (⟨1, 2⟩ : S32) [.int .i64 1, .int .i64 2] from (k32_mkM _ _ _ (⟨1, 2⟩ : S32) )) (Reps.c2 (show Kd.M k32 _ _ _ (⟨0, 2⟩ : S32) [.int .i64 0, .int .i64 2] from (k32_mkM _ _ _ (⟨0, 2⟩ : S32) )) (Reps.c2 (show Kd.M k32 _ _ _ (⟨(-1), 2⟩ : S32) [.int .i64 (-1), .int .i64 2] from (k32_mkM _ _ _ (⟨(-1), 2⟩ : S32) )) (Reps.c2 (show Kd.M k32 _ _ _ (⟨(-2), 1⟩ : S32) [.int .i64 (-2), .int .i64 1] from (k32_mkM _ _ _ (⟨(-2), 1⟩ : S32) )) (Reps.c2 (show Kd.M k32 _ _ _ (⟨(-2), 0⟩ : S32) [.int .i64 (-2), .int .i64 0] from (k32_mkM _ _ _ (⟨(-2), 0⟩ : S32) )) (Reps.c2 (show Kd.M k32 _ _ _ (⟨(-2), (-1)⟩ : S32) [.int .i64 (-2), .int .i64 (-1)] from (k32_mkM _ _ _ (⟨(-2), (-1)⟩ : S32) )) (Reps.c2 (show Kd.M k32 _ _ _ (⟨(-1), (-2)⟩ : S32) [.int .i64 (-1), .int .i64 (-2)] from (k32_mkM _ _ _ (⟨(-1), (-2)⟩ : S32) )) (Reps.c2 (show Kd.M k32 _ _ _ (⟨0, (-2)⟩ : S32) [.int .i64 0, .int .i64 (-2)] from (k32_mkM _ _ _ (⟨0, (-2)⟩ : S32) )) (Reps.c2 (show Kd.M k32 _ _ _ (⟨1, (-2)⟩ : S32) [.int .i64 1, .int .i64 (-2)] from (k32_mkM _ _ _ (⟨1, (-2)⟩ : S32) )) (Reps.c2 (show Kd.M k32 _ _ _ (⟨2, (-1)⟩ : S32) [.int .i64 2, .int .i64 (-1)] from (k32_mkM _ _ _ (⟨2, (-1)⟩ : S32) )) (Reps.none _ _)))))))))))))); intro v123 w2 ho3 hb hg_ hnew_; clear hg_ hnew_; (first | rw [← Ny122.out] at ho3 | (simp only [Int.reduceToNat] at ho3; rw [← Ny122.out] at ho3)); have n0_ := Aside0.mk (Kd.R_lower ho3 (keep_size (w := w) (g := g) (row := none) qq4)); have n1_ := Aside0.mk (IsS81.below qq7 hb); have n2_ := Aside0.mk (KeepBut.trans qq4 (KeepBut.of_below hb g none) (.inl rfl)); have n3_ := Aside0.mk (below_step (qq5 HB.out HI0.out) hb); clear HI0; clear HK; clear HB; have HO124 := n0_; have HI0 := n1_; have HK := n2_; have HB := n3_; clear n0_ n1_ n2_ n3_; clear hb ho3) | ((with_reducible refine gate_dst (N := 20) rfl ?_); refine Kd.R_lit k32 _ 32 ?hg (N := 20) ?hd (xs := ([] : List (S32))) (inner := []) (ok := fun _ => True) (okp := fun _ => True) ?hr ?hp (fun _ hk => hk) trivial (Below.refl _ _) (Nat.le_refl _) (by simp) ?_; (case hd => rfl); (case hg => rfl); (case hr => exact qq23); (case hp => exact (Reps.none _ _)); intro v126 w4 ho5 hb hg_ hnew_; clear hg_ hnew_; (first | rw [← Ny125.out] at ho5 | (simp only [Int.reduceToNat] at ho5; rw [← Ny125.out] at ho5)); have n0_ := Aside0.mk (Kd.R_elder' (qq9 HO124.out) (Kd.R_base ho5) hb); have n1_ := Aside0.mk (Kd.R_lower (Kd.R_new' ho5 (Kd.R_lt (qq9 HO124.out))) (keep_size (w := w) (g := g) (row := none) qq4)); have n2_ := Aside0.mk (IsS81.below qq7 hb); have n3_ := Aside0.mk (KeepBut.trans qq4 (KeepBut.of_below hb g none) (.inl rfl)); have n4_ := Aside0.mk (below_step (qq5 HB.out HI0.out) hb); clear HO124; clear HI0; clear HK; clear HB; have HO124 := n0_; have HO127 := n1_; have HI0 := n2_; have HK := n3_; have HB := n4_; clear n0_ n1_ n2_ n3_ n4_; clear hb ho5))
  go_loopg [4, 5] k (fun kq v4 v5 w' => ∃ (x4_1 : List (S32)) (x5_1 : Int) (x1001_1 : Int), v5 = .int .i64 x5_1 ∧ Aside0 (spec_l92Star.l0 kq y122 x4_1 x5_1 s0_0 x1001_1 = some (r1, r2)) ∧ Aside0 (kq ≤ k) ∧ Aside0 (Kd.R k32 32 w' w.heap.size (fun k_ => some k_ ≠ (v4 : Value).ownBlock) v123 y122) ∧ Aside0 (Kd.R k32 32 w' w.heap.size (fun k_ => some k_ ≠ (v123 : Value).ownBlock) v4 x4_1) ∧ Aside0 (IsS81 w0 w' g s0_0 x1001_1) ∧ Aside0 (KeepBut w w' g none) ∧ Aside0 (Below w0.heap.size w0 w'))
  case atStart => exact ⟨(y125), (0), (s0_1), qq24, H', ⟨Nat.le_refl _⟩, ⟨qq37 HO124.out⟩, ⟨qq37 HO127.out⟩, ⟨qq7⟩, ⟨qq4⟩, ⟨qq5 HB.out HI0.out⟩⟩
  case round =>
    clear H'
    try clear c2
    try clear p2
    obtain ⟨x4_1, x5_1, x1001_1, rfl, HA, HK1, HO_3, HO_4, HI0, HK, HB⟩ := hrel
    cases gk with
    | zero => exact absurd HA.out (by simp [spec_l92Star.l0])
    | succ k1 =>
      have H := HA.out
      clear HA
      simp only [spec_l92Star.l0] at H
      by_cases c6 : x5_1 < (y122.length : Int)
      · rw [if_pos c6] at H
        have c6b0 : decide (x5_1 < (y122.length : Int)) = true := decide_eq_true c6
        clear c6
        by_cases c7 : (Int.tmod x5_1 4) = 0
        · rw [if_pos c7] at H
          have c7b0 : ((Int.tmod x5_1 4) == 0) = true := beq_iff_eq.mpr c7
          have c7b1 : ((Int.tmod x5_1 4) != 0) = false := bne_eq_false_iff_eq.mpr c7
          clear c7
          replace H := Option.bind_eq_some_iff.mp H
          obtain ⟨⟨t128, t129⟩, A80, H⟩ := H
          replace H : (if 0 ≤ x5_1 then (if x4_1.length < 8796093022208 then (spec_l92Star.l0 k1 y122 (x4_1 ++ [(⟨wrap64 ((wrap64 (1 + t128)) * ((rd_T32 y122 x5_1).f0)), wrap64 ((wrap64 (1 + t128)) * ((rd_T32 y122 x5_1).f1))⟩ : S32)]) (wrap64 (x5_1 + 1)) s0_0 t129) else (none)) else (none)) = some (r1, r2) := H
          have A8 := Aside0.mk A80
          clear A80
          by_cases c9 : 0 ≤ x5_1
          · rw [if_pos c9] at H
            have c9b0 : decide (0 ≤ x5_1) = true := decide_eq_true c9
            clear c9
            by_cases c10 : x4_1.length < 8796093022208
            · rw [if_pos c10] at H
              have LMc10 := Aside0.mk c10
              clear c10
              obtain ⟨y132, hy132⟩ : ∃ y_ : List (S32), y_ = (x4_1 ++ [(⟨wrap64 ((wrap64 (1 + t128)) * ((rd_T32 y122 x5_1).f0)), wrap64 ((wrap64 (1 + t128)) * ((rd_T32 y122 x5_1).f1))⟩ : S32)]) := ⟨_, rfl⟩
              replace H : (spec_l92Star.l0 k1 y122 y132 (wrap64 (x5_1 + 1)) s0_0 t129) = some (r1, r2) := by first | (rw [hy132]; with_reducible exact H) | (have H2_ := (Option.bind_some _ _).symm.trans H; rw [hy132]; with_reducible exact H2_) | (have H2_ := (Option.bind_some _ _).symm.trans H; with_reducible exact H2_) | with_reducible exact H | (rw [hy132]; exact H) | exact H
              have Ny132 := Aside0.mk hy132
              clear hy132
              have H' := Aside0.mk H
              clear H
              obtain ⟨Ao11, co11, eo11⟩ := Kd.R_slice HO_3.out
              subst eo11
              try go_wp2_with (first | ((with_reducible refine gate_callee (f := 48) rfl ?_); refine goesL_ (some 36) rfl rfl Try.func48 (by kernel_rfl) rfl #[.pointer (some ⟨g, 0, none⟩), .int .i64 3] rfl qq3 ?_; (with_reducible refine (spec_l6Rd_pick.calls k1 g s0_0 x1001_1 3 t128 t129 w0 _ ?side1 ?side2 A8.out).mono ?_); (case side1 => exact qq7); (case side2 => exact qq5 HB.out HI0.out); rintro e w12 ⟨rfl, hi, hb, hk⟩; refine ⟨_, rfl, ?_⟩; have n0_ := Aside0.mk (Kd.R_mono (Kd.R_keep (IsS81.apart (show IsS81 w0 _ g s0_0 x1001_1 from by repeat (first | (with_reducible first | exact HI0.out | apply IsS81.alloc | apply IsS81.drewN | apply IsS81.drew | apply IsS81.set_1) | exact HI0.out)) (qq9 HO_3.out) (by decide)) hk (fun _ h => h.2)) (fun _ h => h.1)); have n1_ := Aside0.mk (Kd.R_mono (Kd.R_keep (IsS81.apart (show IsS81 w0 _ g s0_0 x1001_1 from by repeat (first | (with_reducible first | exact HI0.out | apply IsS81.alloc | apply IsS81.drewN | apply IsS81.drew | apply IsS81.set_1) | exact HI0.out)) (qq9 HO_4.out) (by decide)) hk (fun _ h => h.2)) (fun _ h => h.1)); have n2_ := Aside0.mk (KeepBut.trans qq4 hk (.inl rfl)); have n3_ := Aside0.mk (hb); have n4_ := Aside0.mk (hi); clear HO_3; clear HO_4; clear HK; clear HB; clear HI0; have HO_3 := n0_; have HO_4 := n1_; have HK := n2_; have HB := n3_; have HI0 := n4_; clear n0_ n1_ n2_ n3_ n4_; (try clear hb); (try clear hb2); (try clear hk); (try clear hi)))
              have n0_ := Aside0.mk (Kd.R_drew HO_3.out)
              have n1_ := Aside0.mk (Kd.R_drew HO_4.out)
              have n2_ := Aside0.mk (IsS81.drew HI0.out)
              have n3_ := Aside0.mk (keep_drew HK.out)
              have n4_ := Aside0.mk (below_drew1 HB.out)
              clear HO_3
              clear HO_4
              clear HI0
              clear HK
              clear HB
              have HO_3 := n0_
              have HO_4 := n1_
              have HI0 := n2_
              have HK := n3_
              have HB := n4_
              clear n0_ n1_ n2_ n3_ n4_
              have p130 : 0 ≤ (x5_1 : Int) := of_decide_eq_true qq10
              have q130 : x5_1 < (y122.length : Int) := of_decide_eq_true qq10
              obtain ⟨ad130, e130, hx130_0, hx130_1⟩ := at_T32 (Kd.R_reads' HO_3.out).2.2 x5_1 p130 q130
              cases e130
              replace p130 := eq_true p130
              replace q130 := eq_true q130
              have p131 : 0 ≤ (x5_1 : Int) := of_decide_eq_true qq10
              have q131 : x5_1 < (y122.length : Int) := of_decide_eq_true qq10
              obtain ⟨ad131, e131, hx131_0, hx131_1⟩ := at_T32 (Kd.R_reads' HO_3.out).2.2 x5_1 p131 q131
              obtain rfl : ad130 = ad131 := (by injection e131)
              replace p131 := eq_true p131
              replace q131 := eq_true q131
              refine start_ (n := 19) (S := fun w' => w'.cell? (ad130.add ((x5_1).toNat * 2)) = some (.int .i64 ((rd_T32 y122 x5_1).f0)) ∧ w'.cell? ⟨(ad130.add ((x5_1).toNat * 2)).block, (ad130.add ((x5_1).toNat * 2)).off + 1, none⟩ = some (.int .i64 ((rd_T32 y122 x5_1).f1)) ∧ w'.cell? (ad130.add ((x5_1).toNat * 2)) = some (.int .i64 ((rd_T32 y122 x5_1).f0)) ∧ w'.cell? ⟨(ad130.add ((x5_1).toNat * 2)).block, (ad130.add ((x5_1).toNat * 2)).off + 1, none⟩ = some (.int .i64 ((rd_T32 y122 x5_1).f1))) (ds := [16, 17]) #[false, false, false, false, false, false, false, false, false, false, false, false, false, false, false, false, false, false, false] (by kernel_rfl) rfl rfl ⟨hx130_0, hx130_1, hx131_0, hx131_1⟩ (fun hHeld => ?_); refine with_tabW spec_l92Star.tab8 spec_l92Star.bits8 (fun HT_ HW_ => ?_)
              generalize w12.drew = w13 at HO_3 HO_4 HI0 HK HB hx130_0 hx130_1 hx131_0 hx131_1 hHeld ⊢
              refine pure_ (i := 0) (N := some 38) #[true, false, false, false, false, false, false, false, false, false, false, false, false, false, false, false, false, false, false] rfl rfl (any_of HT_.out (by kernel_rfl)) (fun _ _ _ h => h) (Or.inl ⟨by rfl, pA_⟩) pB_ ?_
              refine pure_ (i := 1) (N := some 39) #[true, true, false, false, false, false, false, false, false, false, false, false, false, false, false, false, false, false, false] rfl rfl (any_of HT_.out (by kernel_rfl)) (fun _ _ _ h => h) (Or.inl ⟨by rfl, pA_⟩) pB_ ?_
              refine pure_ (i := 2) (N := some 40) #[true, true, true, false, false, false, false, false, false, false, false, false, false, false, false, false, false, false, false] rfl rfl (any_of HT_.out (by kernel_rfl)) (fun _ _ _ h => h) (Or.inl ⟨by rfl, pA_⟩) pB_ ?_
              refine pure_ (i := 3) (N := some 41) #[true, true, true, true, false, false, false, false, false, false, false, false, false, false, false, false, false, false, false] rfl rfl (any_of HT_.out (by kernel_rfl)) (fun _ _ _ h => h) (Or.inl ⟨by rfl, pA_⟩) pB_ ?_
              refine pure_ (i := 4) (N := some 42) #[true, true, true, true, true, false, false, false, false, false, false, false, false, false, false, false, false, false, false] rfl rfl (any_of HT_.out (by kernel_rfl)) (fun _ _ _ h => h) (Or.inl ⟨by rfl, pA_⟩) pB_ ?_
              refine pure_ (i := 5) (N := some 43) #[true, true, true, true, true, true, false, false, false, false, false, false, false, false, false, false, false, false, false] rfl rfl (any_of HT_.out (by kernel_rfl)) (fun _ _ _ h => h) (Or.inl ⟨by rfl, pA_⟩) pB_ ?_
              refine pure_ (i := 8) (N := some 46) #[true, true, true, true, true, true, false, false, true, false, false, false, false, false, false, false, false, false, false] rfl rfl (any_of HT_.out (by kernel_rfl)) (fun _ _ _ h => h) (Or.inl ⟨by rfl, pA_⟩) pB_ ?_
              refine pure_ (i := 9) (N := some 47) #[true, true, true, true, true, true, false, false, true, true, false, false, false, false, false, false, false, false, false] rfl rfl (any_of HT_.out (by kernel_rfl)) (fun _ _ _ h => h) (Or.inl ⟨by rfl, pA_⟩) pB_ ?_
              refine pure_ (i := 10) (N := some 48) #[true, true, true, true, true, true, false, false, true, true, true, false, false, false, false, false, false, false, false] rfl rfl (any_of HT_.out (by kernel_rfl)) (fun _ _ _ h => h) (Or.inl ⟨by rfl, pA_⟩) pB_ ?_
              refine pure_ (i := 11) (N := some 49) #[true, true, true, true, true, true, false, false, true, true, true, true, false, false, false, false, false, false, false] rfl rfl (any_of HT_.out (by kernel_rfl)) (fun _ _ _ h => h) (Or.inl ⟨by rfl, pA_⟩) pB_ ?_
              refine pure_ (i := 12) (N := some 50) #[true, true, true, true, true, true, false, false, true, true, true, true, true, false, false, false, false, false, false] rfl rfl (any_of HT_.out (by kernel_rfl)) (fun _ _ _ h => h) (Or.inl ⟨by rfl, pA_⟩) pB_ ?_
              refine take_ (i := 6) (N := some 44) (v := ?_) (a' := ?_) #[true, true, true, true, true, true, true, false, true, true, true, true, true, false, false, false, false, false, false] rfl rfl (take_ofW HT_.out HW_.out (by kernel_rfl)) (fun _ _ _ h => h) (Or.inl ⟨by rfl, ?_⟩) hHeld ?_ ?_
              rotate_left
              · rintro w' ⟨s0, s1, s2, s3⟩
                go_simp
                with_reducible rfl
              rotate_left
              · simp only [Act.put, List.setIfInBounds_toArray, List.set_cons_zero, List.set_cons_succ, i64_w, i32_w]
                rfl
              refine pure_ (i := 7) (N := some 45) #[true, true, true, true, true, true, true, true, true, true, true, true, true, false, false, false, false, false, false] rfl rfl (any_of HT_.out (by kernel_rfl)) (fun _ _ _ h => h) (Or.inl ⟨by rfl, pA_⟩) pB_ ?_
              refine take_ (i := 13) (N := some 51) (v := ?_) (a' := ?_) #[true, true, true, true, true, true, true, true, true, true, true, true, true, true, false, false, false, false, false] rfl rfl (take_ofW HT_.out HW_.out (by kernel_rfl)) (fun _ _ _ h => h) (Or.inl ⟨by rfl, ?_⟩) hHeld ?_ ?_
              rotate_left
              · rintro w' ⟨s0, s1, s2, s3⟩
                go_simp
                with_reducible rfl
              rotate_left
              · simp only [Act.put, List.setIfInBounds_toArray, List.set_cons_zero, List.set_cons_succ, i64_w, i32_w]
                rfl
              refine pure_ (i := 14) (N := some 52) #[true, true, true, true, true, true, true, true, true, true, true, true, true, true, true, false, false, false, false] rfl rfl (any_of HT_.out (by kernel_rfl)) (fun _ _ _ h => h) (Or.inl ⟨by rfl, pA_⟩) pB_ ?_
              refine pure_ (i := 15) (N := some 53) #[true, true, true, true, true, true, true, true, true, true, true, true, true, true, true, true, false, false, false] rfl rfl (any_of HT_.out (by kernel_rfl)) (fun _ _ _ h => h) (Or.inl ⟨by rfl, pA_⟩) pB_ ?_
              refine last_ (i := 16) (N := some 54) #[true, true, true, true, true, true, true, true, true, true, true, true, true, true, true, true, true, false, false] rfl rfl (one_of HT_.out (by kernel_rfl)) (by decide) (fun K hK => ?_)
              refine value_ (w1 := ?_) (v := ?_) (by rfl) rfl ?_ ?_
              rotate_left 2
              · go_simp
                constructor
                · rfl
                · rfl
              refine hK.out _ _ ?_
              clear hK K
              refine norm_ (a' := ?_) ?_ ?_
              rotate_left
              · show Act.put _ (some 54) _ = _
                simp only [Act.put, List.setIfInBounds_toArray, List.set_cons_zero, List.set_cons_succ, i64_w, i32_w]
                rfl
              refine last_ (i := 17) (N := some 55) #[true, true, true, true, true, true, true, true, true, true, true, true, true, true, true, true, true, true, false] rfl rfl (one_of HT_.out (by kernel_rfl)) (by decide) (fun K hK => ?_)
              refine Kd.R_append_step k32 w.heap.size (by rfl) (.tmp 38) (.tmp 54) 23 32 (.agg #[(.int .i64 0), (.int .i64 0)]) 16 rfl Try.underlying23 info32 rfl (by decide) (by omega) u4 x4_1 (⟨wrap64 ((wrap64 (1 + t128)) * ((rd_T32 y122 x5_1).f0)), wrap64 ((wrap64 (1 + t128)) * ((rd_T32 y122 x5_1).f1))⟩ : S32) [.int .i64 (wrap64 ((wrap64 (1 + t128)) * ((rd_T32 y122 x5_1).f0))), .int .i64 (wrap64 ((wrap64 (1 + t128)) * ((rd_T32 y122 x5_1).f1)))] (fun k_ => some k_ ≠ (.slice (some ad130) y122.length co11 : Value).ownBlock) (fun _ => False) rfl rfl ?aP (fun _ hk => hk.elim) ?aF ?aO (Below.refl _ _) ?aS ?aL ?_
              (case aP => exact k32_mkM _ _ _ (⟨wrap64 ((wrap64 (1 + t128)) * ((rd_T32 y122 x5_1).f0)), wrap64 ((wrap64 (1 + t128)) * ((rd_T32 y122 x5_1).f1))⟩ : S32))
              (case aF => exact (fun k_ hk => Kd.fresh' (Kd.R_lt (qq9 HO_3.out)) k_ hk))
              (case aO => exact (qq9 HO_4.out))
              (case aS => exact qq69)
              (case aL => have := LMc10.out; omega)
              intro v133 w14 ho hb hg hat
              rw [← Ny132.out] at ho
              have n0_ := Aside0.mk (Kd.R_after (ok := (fun _ => True)) qq73 hg hat)
              have n1_ := Aside0.mk (IsS81.grown qq7 hg (IsS81.own_ne HI0.out HO_4.out (by decide)))
              have n2_ := Aside0.mk (below_weaken (qq5 HB.out HI0.out) HL.out hb)
              have n3_ := Aside0.mk (KeepBut.trans qq4 (KeepBut.of_grown hg g) (Kd.R_base2 HO_4.out))
              have n4_ := Aside0.mk (ho)
              clear HO_3
              clear HI0
              clear HB
              clear HK
              clear HO_4
              have HO_3 := n0_
              have HI0 := n1_
              have HB := n2_
              have HK := n3_
              have HO134 := n4_
              clear n0_ n1_ n2_ n3_ n4_
              clear ho hb hg hat
              refine hK.out _ _ ?_
              clear hK K
              refine norm_ (a' := ?_) ?_ ?_
              rotate_left
              · show Act.put _ (some 55) _ = _
                simp only [Act.put, List.setIfInBounds_toArray, List.set_cons_zero, List.set_cons_succ, i64_w, i32_w]
                rfl
              refine pure_ (i := 18) (N := some 4) #[true, true, true, true, true, true, true, true, true, true, true, true, true, true, true, true, true, true, true] rfl rfl (any_of HT_.out (by kernel_rfl)) (fun _ _ _ h => h) (Or.inl ⟨by rfl, pA_⟩) pB_ ?_
              refine done_ (done_of HT_.out (by kernel_rfl)) ?_
              try go_wp2
              go_roundg k1
              case measure => have := HK1.out; omega
              case rel => exact ⟨(y132), (wrap64 (x5_1 + 1)), (t129), qq24, H', ⟨by have := HK1.out; omega⟩, ⟨qq37 HO_3.out⟩, ⟨qq9 HO134.out⟩, ⟨qq7⟩, ⟨qq4⟩, ⟨qq5 HB.out HI0.out⟩⟩
            · rw [if_neg c10] at H
              exact absurd H (by simp)
          · rw [if_neg c9] at H
            exact absurd H (by simp)
        · rw [if_neg c7] at H
          have c7b0 : ((Int.tmod x5_1 4) == 0) = false := beq_eq_false_iff_ne.mpr c7
          have c7b1 : ((Int.tmod x5_1 4) != 0) = true := bne_iff_ne.mpr c7
          replace H := Option.bind_eq_some_iff.mp H
          obtain ⟨⟨t135, t136⟩, A150, H⟩ := H
          replace H : (if t135 = 0 then ((spec_l6Rd_pick.f k1 s0_0 t136 3).bind fun bt137 => (if 0 ≤ x5_1 then (if x4_1.length < 8796093022208 then (spec_l92Star.l0 k1 y122 (x4_1 ++ [(⟨wrap64 ((wrap64 (1 + bt137.1)) * ((rd_T32 y122 x5_1).f0)), wrap64 ((wrap64 (1 + bt137.1)) * ((rd_T32 y122 x5_1).f1))⟩ : S32)]) (wrap64 (x5_1 + 1)) s0_0 bt137.2) else (none)) else (none))) else (spec_l92Star.l0 k1 y122 x4_1 (wrap64 (x5_1 + 1)) s0_0 t136)) = some (r1, r2) := H
          have A15 := Aside0.mk A150
          clear A150
          by_cases c16 : t135 = 0
          · rw [if_pos c16] at H
            have c16b0 : (t135 == 0) = true := beq_iff_eq.mpr c16
            have c16b1 : (t135 != 0) = false := bne_eq_false_iff_eq.mpr c16
            clear c16
            replace H := Option.bind_eq_some_iff.mp H
            obtain ⟨⟨t137, t138⟩, A170, H⟩ := H
            replace H : (if 0 ≤ x5_1 then (if x4_1.length < 8796093022208 then (spec_l92Star.l0 k1 y122 (x4_1 ++ [(⟨wrap64 ((wrap64 (1 + t137)) * ((rd_T32 y122 x5_1).f0)), wrap64 ((wrap64 (1 + t137)) * ((rd_T32 y122 x5_1).f1))⟩ : S32)]) (wrap64 (x5_1 + 1)) s0_0 t138) else (none)) else (none)) = some (r1, r2) := H
            have A17 := Aside0.mk A170
            clear A170
            by_cases c18 : 0 ≤ x5_1
            · rw [if_pos c18] at H
              have c18b0 : decide (0 ≤ x5_1) = true := decide_eq_true c18
              clear c18
              by_cases c19 : x4_1.length < 8796093022208
              · rw [if_pos c19] at H
                have LMc19 := Aside0.mk c19
                clear c19
                obtain ⟨y141, hy141⟩ : ∃ y_ : List (S32), y_ = (x4_1 ++ [(⟨wrap64 ((wrap64 (1 + t137)) * ((rd_T32 y122 x5_1).f0)), wrap64 ((wrap64 (1 + t137)) * ((rd_T32 y122 x5_1).f1))⟩ : S32)]) := ⟨_, rfl⟩
                replace H : (spec_l92Star.l0 k1 y122 y141 (wrap64 (x5_1 + 1)) s0_0 t138) = some (r1, r2) := by first | (rw [hy141]; with_reducible exact H) | (have H2_ := (Option.bind_some _ _).symm.trans H; rw [hy141]; with_reducible exact H2_) | (have H2_ := (Option.bind_some _ _).symm.trans H; with_reducible exact H2_) | with_reducible exact H | (rw [hy141]; exact H) | exact H
                have Ny141 := Aside0.mk hy141
                clear hy141
                have H' := Aside0.mk H
                clear H
                obtain ⟨Ao20, co20, eo20⟩ := Kd.R_slice HO_3.out
                subst eo20
                try go_wp2_with (first | (go_at_call 48; (with_reducible refine (spec_l6Rd_pick.calls k1 g s0_0 x1001_1 3 t135 t136 w0 _ ?side1 ?side2 A15.out).mono ?_); (case side1 => exact qq7); (case side2 => exact qq5 HB.out HI0.out); rintro e w21 ⟨rfl, hi, hb, hk⟩; have n0_ := Aside0.mk (Kd.R_mono (Kd.R_keep (IsS81.apart (show IsS81 w0 _ g s0_0 x1001_1 from by repeat (first | (with_reducible first | exact HI0.out | apply IsS81.alloc | apply IsS81.drewN | apply IsS81.drew | apply IsS81.set_1) | exact HI0.out)) (qq9 HO_3.out) (by decide)) hk (fun _ h => h.2)) (fun _ h => h.1)); have n1_ := Aside0.mk (Kd.R_mono (Kd.R_keep (IsS81.apart (show IsS81 w0 _ g s0_0 x1001_1 from by repeat (first | (with_reducible first | exact HI0.out | apply IsS81.alloc | apply IsS81.drewN | apply IsS81.drew | apply IsS81.set_1) | exact HI0.out)) (qq9 HO_4.out) (by decide)) hk (fun _ h => h.2)) (fun _ h => h.1)); have n2_ := Aside0.mk (KeepBut.trans qq4 hk (.inl rfl)); have n3_ := Aside0.mk (hb); have n4_ := Aside0.mk (hi); clear HO_3; clear HO_4; clear HK; clear HB; clear HI0; have HO_3 := n0_; have HO_4 := n1_; have HK := n2_; have HB := n3_; have HI0 := n4_; clear n0_ n1_ n2_ n3_ n4_; (try clear hb); (try clear hb2); (try clear hk); (try clear hi)) | ((with_reducible refine gate_callee (f := 48) rfl ?_); refine goesL_ (some 36) rfl rfl Try.func48 (by kernel_rfl) rfl #[.pointer (some ⟨g, 0, none⟩), .int .i64 3] rfl qq3 ?_; (with_reducible refine (spec_l6Rd_pick.calls k1 g s0_0 t136 3 t137 t138 w0 _ ?side1 ?side2 A17.out).mono ?_); (case side1 => exact qq7); (case side2 => exact qq5 HB.out HI0.out); rintro e w22 ⟨rfl, hi, hb, hk⟩; refine ⟨_, rfl, ?_⟩; have n0_ := Aside0.mk (Kd.R_mono (Kd.R_keep (IsS81.apart (show IsS81 w0 _ g s0_0 t136 from by repeat (first | (with_reducible first | exact HI0.out | apply IsS81.alloc | apply IsS81.drewN | apply IsS81.drew | apply IsS81.set_1) | exact HI0.out)) (qq9 HO_3.out) (by decide)) hk (fun _ h => h.2)) (fun _ h => h.1)); have n1_ := Aside0.mk (Kd.R_mono (Kd.R_keep (IsS81.apart (show IsS81 w0 _ g s0_0 t136 from by repeat (first | (with_reducible first | exact HI0.out | apply IsS81.alloc | apply IsS81.drewN | apply IsS81.drew | apply IsS81.set_1) | exact HI0.out)) (qq9 HO_4.out) (by decide)) hk (fun _ h => h.2)) (fun _ h => h.1)); have n2_ := Aside0.mk (KeepBut.trans qq4 hk (.inl rfl)); have n3_ := Aside0.mk (hb); have n4_ := Aside0.mk (hi); clear HO_3; clear HO_4; clear HK; clear HB; clear HI0; have HO_3 := n0_; have HO_4 := n1_; have HK := n2_; have HB := n3_; have HI0 := n4_; clear n0_ n1_ n2_ n3_ n4_; (try clear hb); (try clear hb2); (try clear hk); (try clear hi)))
                have n0_ := Aside0.mk (Kd.R_drew HO_3.out)
                have n1_ := Aside0.mk (Kd.R_drew HO_4.out)
                have n2_ := Aside0.mk (IsS81.drew HI0.out)
                have n3_ := Aside0.mk (keep_drew HK.out)
                have n4_ := Aside0.mk (below_drew1 HB.out)
                clear HO_3
                clear HO_4
                clear HI0
                clear HK
                clear HB
                have HO_3 := n0_
                have HO_4 := n1_
                have HI0 := n2_
                have HK := n3_
                have HB := n4_
                clear n0_ n1_ n2_ n3_ n4_
                have p139 : 0 ≤ (x5_1 : Int) := of_decide_eq_true qq10
                have q139 : x5_1 < (y122.length : Int) := of_decide_eq_true qq10
                obtain ⟨ad139, e139, hx139_0, hx139_1⟩ := at_T32 (Kd.R_reads' HO_3.out).2.2 x5_1 p139 q139
                cases e139
                replace p139 := eq_true p139
                replace q139 := eq_true q139
                have p140 : 0 ≤ (x5_1 : Int) := of_decide_eq_true qq10
                have q140 : x5_1 < (y122.length : Int) := of_decide_eq_true qq10
                obtain ⟨ad140, e140, hx140_0, hx140_1⟩ := at_T32 (Kd.R_reads' HO_3.out).2.2 x5_1 p140 q140
                obtain rfl : ad139 = ad140 := (by injection e140)
                replace p140 := eq_true p140
                replace q140 := eq_true q140
                refine start_ (n := 19) (S := fun w' => w'.cell? (ad139.add ((x5_1).toNat * 2)) = some (.int .i64 ((rd_T32 y122 x5_1).f0)) ∧ w'.cell? ⟨(ad139.add ((x5_1).toNat * 2)).block, (ad139.add ((x5_1).toNat * 2)).off + 1, none⟩ = some (.int .i64 ((rd_T32 y122 x5_1).f1)) ∧ w'.cell? (ad139.add ((x5_1).toNat * 2)) = some (.int .i64 ((rd_T32 y122 x5_1).f0)) ∧ w'.cell? ⟨(ad139.add ((x5_1).toNat * 2)).block, (ad139.add ((x5_1).toNat * 2)).off + 1, none⟩ = some (.int .i64 ((rd_T32 y122 x5_1).f1))) (ds := [16, 17]) #[false, false, false, false, false, false, false, false, false, false, false, false, false, false, false, false, false, false, false] (by kernel_rfl) rfl rfl ⟨hx139_0, hx139_1, hx140_0, hx140_1⟩ (fun hHeld => ?_); refine with_tabW spec_l92Star.tab8 spec_l92Star.bits8 (fun HT_ HW_ => ?_)
                generalize w22.drew = w23 at HO_3 HO_4 HI0 HK HB hx139_0 hx139_1 hx140_0 hx140_1 hHeld ⊢
                refine pure_ (i := 0) (N := some 38) #[true, false, false, false, false, false, false, false, false, false, false, false, false, false, false, false, false, false, false] rfl rfl (any_of HT_.out (by kernel_rfl)) (fun _ _ _ h => h) (Or.inl ⟨by rfl, pA_⟩) pB_ ?_
                refine pure_ (i := 1) (N := some 39) #[true, true, false, false, false, false, false, false, false, false, false, false, false, false, false, false, false, false, false] rfl rfl (any_of HT_.out (by kernel_rfl)) (fun _ _ _ h => h) (Or.inl ⟨by rfl, pA_⟩) pB_ ?_
                refine pure_ (i := 2) (N := some 40) #[true, true, true, false, false, false, false, false, false, false, false, false, false, false, false, false, false, false, false] rfl rfl (any_of HT_.out (by kernel_rfl)) (fun _ _ _ h => h) (Or.inl ⟨by rfl, pA_⟩) pB_ ?_
                refine pure_ (i := 3) (N := some 41) #[true, true, true, true, false, false, false, false, false, false, false, false, false, false, false, false, false, false, false] rfl rfl (any_of HT_.out (by kernel_rfl)) (fun _ _ _ h => h) (Or.inl ⟨by rfl, pA_⟩) pB_ ?_
                refine pure_ (i := 4) (N := some 42) #[true, true, true, true, true, false, false, false, false, false, false, false, false, false, false, false, false, false, false] rfl rfl (any_of HT_.out (by kernel_rfl)) (fun _ _ _ h => h) (Or.inl ⟨by rfl, pA_⟩) pB_ ?_
                refine pure_ (i := 5) (N := some 43) #[true, true, true, true, true, true, false, false, false, false, false, false, false, false, false, false, false, false, false] rfl rfl (any_of HT_.out (by kernel_rfl)) (fun _ _ _ h => h) (Or.inl ⟨by rfl, pA_⟩) pB_ ?_
                refine pure_ (i := 8) (N := some 46) #[true, true, true, true, true, true, false, false, true, false, false, false, false, false, false, false, false, false, false] rfl rfl (any_of HT_.out (by kernel_rfl)) (fun _ _ _ h => h) (Or.inl ⟨by rfl, pA_⟩) pB_ ?_
                refine pure_ (i := 9) (N := some 47) #[true, true, true, true, true, true, false, false, true, true, false, false, false, false, false, false, false, false, false] rfl rfl (any_of HT_.out (by kernel_rfl)) (fun _ _ _ h => h) (Or.inl ⟨by rfl, pA_⟩) pB_ ?_
                refine pure_ (i := 10) (N := some 48) #[true, true, true, true, true, true, false, false, true, true, true, false, false, false, false, false, false, false, false] rfl rfl (any_of HT_.out (by kernel_rfl)) (fun _ _ _ h => h) (Or.inl ⟨by rfl, pA_⟩) pB_ ?_
                refine pure_ (i := 11) (N := some 49) #[true, true, true, true, true, true, false, false, true, true, true, true, false, false, false, false, false, false, false] rfl rfl (any_of HT_.out (by kernel_rfl)) (fun _ _ _ h => h) (Or.inl ⟨by rfl, pA_⟩) pB_ ?_
                refine pure_ (i := 12) (N := some 50) #[true, true, true, true, true, true, false, false, true, true, true, true, true, false, false, false, false, false, false] rfl rfl (any_of HT_.out (by kernel_rfl)) (fun _ _ _ h => h) (Or.inl ⟨by rfl, pA_⟩) pB_ ?_
                refine take_ (i := 6) (N := some 44) (v := ?_) (a' := ?_) #[true, true, true, true, true, true, true, false, true, true, true, true, true, false, false, false, false, false, false] rfl rfl (take_ofW HT_.out HW_.out (by kernel_rfl)) (fun _ _ _ h => h) (Or.inl ⟨by rfl, ?_⟩) hHeld ?_ ?_
                rotate_left
                · rintro w' ⟨s0, s1, s2, s3⟩
                  go_simp
                  with_reducible rfl
                rotate_left
                · simp only [Act.put, List.setIfInBounds_toArray, List.set_cons_zero, List.set_cons_succ, i64_w, i32_w]
                  rfl
                refine pure_ (i := 7) (N := some 45) #[true, true, true, true, true, true, true, true, true, true, true, true, true, false, false, false, false, false, false] rfl rfl (any_of HT_.out (by kernel_rfl)) (fun _ _ _ h => h) (Or.inl ⟨by rfl, pA_⟩) pB_ ?_
                refine take_ (i := 13) (N := some 51) (v := ?_) (a' := ?_) #[true, true, true, true, true, true, true, true, true, true, true, true, true, true, false, false, false, false, false] rfl rfl (take_ofW HT_.out HW_.out (by kernel_rfl)) (fun _ _ _ h => h) (Or.inl ⟨by rfl, ?_⟩) hHeld ?_ ?_
                rotate_left
                · rintro w' ⟨s0, s1, s2, s3⟩
                  go_simp
                  with_reducible rfl
                rotate_left
                · simp only [Act.put, List.setIfInBounds_toArray, List.set_cons_zero, List.set_cons_succ, i64_w, i32_w]
                  rfl
                refine pure_ (i := 14) (N := some 52) #[true, true, true, true, true, true, true, true, true, true, true, true, true, true, true, false, false, false, false] rfl rfl (any_of HT_.out (by kernel_rfl)) (fun _ _ _ h => h) (Or.inl ⟨by rfl, pA_⟩) pB_ ?_
                refine pure_ (i := 15) (N := some 53) #[true, true, true, true, true, true, true, true, true, true, true, true, true, true, true, true, false, false, false] rfl rfl (any_of HT_.out (by kernel_rfl)) (fun _ _ _ h => h) (Or.inl ⟨by rfl, pA_⟩) pB_ ?_
                refine last_ (i := 16) (N := some 54) #[true, true, true, true, true, true, true, true, true, true, true, true, true, true, true, true, true, false, false] rfl rfl (one_of HT_.out (by kernel_rfl)) (by decide) (fun K hK => ?_)
                refine value_ (w1 := ?_) (v := ?_) (by rfl) rfl ?_ ?_
                rotate_left 2
                · go_simp
                  constructor
                  · rfl
                  · rfl
                refine hK.out _ _ ?_
                clear hK K
                refine norm_ (a' := ?_) ?_ ?_
                rotate_left
                · show Act.put _ (some 54) _ = _
                  simp only [Act.put, List.setIfInBounds_toArray, List.set_cons_zero, List.set_cons_succ, i64_w, i32_w]
                  rfl
                refine last_ (i := 17) (N := some 55) #[true, true, true, true, true, true, true, true, true, true, true, true, true, true, true, true, true, true, false] rfl rfl (one_of HT_.out (by kernel_rfl)) (by decide) (fun K hK => ?_)
                refine Kd.R_append_step k32 w.heap.size (by rfl) (.tmp 38) (.tmp 54) 23 32 (.agg #[(.int .i64 0), (.int .i64 0)]) 16 rfl Try.underlying23 info32 rfl (by decide) (by omega) u4 x4_1 (⟨wrap64 ((wrap64 (1 + t137)) * ((rd_T32 y122 x5_1).f0)), wrap64 ((wrap64 (1 + t137)) * ((rd_T32 y122 x5_1).f1))⟩ : S32) [.int .i64 (wrap64 ((wrap64 (1 + t137)) * ((rd_T32 y122 x5_1).f0))), .int .i64 (wrap64 ((wrap64 (1 + t137)) * ((rd_T32 y122 x5_1).f1)))] (fun k_ => some k_ ≠ (.slice (some ad139) y122.length co20 : Value).ownBlock) (fun _ => False) rfl rfl ?aP (fun _ hk => hk.elim) ?aF ?aO (Below.refl _ _) ?aS ?aL ?_
                (case aP => exact k32_mkM _ _ _ (⟨wrap64 ((wrap64 (1 + t137)) * ((rd_T32 y122 x5_1).f0)), wrap64 ((wrap64 (1 + t137)) * ((rd_T32 y122 x5_1).f1))⟩ : S32))
                (case aF => exact (fun k_ hk => Kd.fresh' (Kd.R_lt (qq9 HO_3.out)) k_ hk))
                (case aO => exact (qq9 HO_4.out))
                (case aS => exact qq69)
                (case aL => have := LMc19.out; omega)
                intro v142 w24 ho hb hg hat
                rw [← Ny141.out] at ho
                have n0_ := Aside0.mk (Kd.R_after (ok := (fun _ => True)) qq73 hg hat)
                have n1_ := Aside0.mk (IsS81.grown qq7 hg (IsS81.own_ne HI0.out HO_4.out (by decide)))
                have n2_ := Aside0.mk (below_weaken (qq5 HB.out HI0.out) HL.out hb)
                have n3_ := Aside0.mk (KeepBut.trans qq4 (KeepBut.of_grown hg g) (Kd.R_base2 HO_4.out))
                have n4_ := Aside0.mk (ho)
                clear HO_3
                clear HI0
                clear HB
                clear HK
                clear HO_4
                have HO_3 := n0_
                have HI0 := n1_
                have HB := n2_
                have HK := n3_
                have HO143 := n4_
                clear n0_ n1_ n2_ n3_ n4_
                clear ho hb hg hat
                refine hK.out _ _ ?_
                clear hK K
                refine norm_ (a' := ?_) ?_ ?_
                rotate_left
                · show Act.put _ (some 55) _ = _
                  simp only [Act.put, List.setIfInBounds_toArray, List.set_cons_zero, List.set_cons_succ, i64_w, i32_w]
                  rfl
                refine pure_ (i := 18) (N := some 4) #[true, true, true, true, true, true, true, true, true, true, true, true, true, true, true, true, true, true, true] rfl rfl (any_of HT_.out (by kernel_rfl)) (fun _ _ _ h => h) (Or.inl ⟨by rfl, pA_⟩) pB_ ?_
                refine done_ (done_of HT_.out (by kernel_rfl)) ?_
                try go_wp2
                go_roundg k1
                case measure => have := HK1.out; omega
                case rel => exact ⟨(y141), (wrap64 (x5_1 + 1)), (t138), qq24, H', ⟨by have := HK1.out; omega⟩, ⟨qq37 HO_3.out⟩, ⟨qq9 HO143.out⟩, ⟨qq7⟩, ⟨qq4⟩, ⟨qq5 HB.out HI0.out⟩⟩
              · rw [if_neg c19] at H
                exact absurd H (by simp)
            · rw [if_neg c18] at H
              exact absurd H (by simp)
          · rw [if_neg c16] at H
            have c16b0 : (t135 == 0) = false := beq_eq_false_iff_ne.mpr c16
            have c16b1 : (t135 != 0) = true := bne_iff_ne.mpr c16
            have H' := Aside0.mk H
            clear H
            obtain ⟨Ao25, co25, eo25⟩ := Kd.R_slice HO_3.out
            subst eo25
            go_wp2_with (first | (go_at_call 48; (with_reducible refine (spec_l6Rd_pick.calls k1 g s0_0 x1001_1 3 t135 t136 w0 _ ?side1 ?side2 A15.out).mono ?_); (case side1 => exact qq7); (case side2 => exact qq5 HB.out HI0.out); rintro e w26 ⟨rfl, hi, hb, hk⟩; have n0_ := Aside0.mk (Kd.R_mono (Kd.R_keep (IsS81.apart (show IsS81 w0 _ g s0_0 x1001_1 from by repeat (first | (with_reducible first | exact HI0.out | apply IsS81.alloc | apply IsS81.drewN | apply IsS81.drew | apply IsS81.set_1) | exact HI0.out)) (qq9 HO_3.out) (by decide)) hk (fun _ h => h.2)) (fun _ h => h.1)); have n1_ := Aside0.mk (Kd.R_mono (Kd.R_keep (IsS81.apart (show IsS81 w0 _ g s0_0 x1001_1 from by repeat (first | (with_reducible first | exact HI0.out | apply IsS81.alloc | apply IsS81.drewN | apply IsS81.drew | apply IsS81.set_1) | exact HI0.out)) (qq9 HO_4.out) (by decide)) hk (fun _ h => h.2)) (fun _ h => h.1)); have n2_ := Aside0.mk (KeepBut.trans qq4 hk (.inl rfl)); have n3_ := Aside0.mk (hb); have n4_ := Aside0.mk (hi); clear HO_3; clear HO_4; clear HK; clear HB; clear HI0; have HO_3 := n0_; have HO_4 := n1_; have HK := n2_; have HB := n3_; have HI0 := n4_; clear n0_ n1_ n2_ n3_ n4_; (try clear hb); (try clear hb2); (try clear hk); (try clear hi)))
            go_roundg k1
            case measure => have := HK1.out; omega
            case rel => exact ⟨(x4_1), (wrap64 (x5_1 + 1)), (t136), qq24, H', ⟨by have := HK1.out; omega⟩, ⟨qq9 HO_3.out⟩, ⟨qq9 HO_4.out⟩, ⟨qq7⟩, ⟨qq4⟩, ⟨qq5 HB.out HI0.out⟩⟩
      · rw [if_neg c6] at H
        have c6b0 : decide (x5_1 < (y122.length : Int)) = false := decide_eq_false c6
        clear c6
        simp only [Option.some.injEq, Prod.mk.injEq] at H
        obtain ⟨rfl, rfl⟩ := H
        obtain ⟨Ao27, co27, eo27⟩ := Kd.R_slice HO_3.out
        subst eo27
        go_wp2
        go_ret
        exact ⟨_, qq13, qq64 HO_4.out, qq7, qq5 HB.out HI0.out, qq4⟩

end Go.Proofs.Ytgdhgncdpmalcaa.Q
namespace Go.Proofs.Ytgdhgncdpmalcaa.Q
open Go.RowKit Go.Proofs.YtgdhgncdpmalcaaW.PrintWords Go.Proofs.YtgdhgncdpmalcaaW.PrintLast Go.Proofs.YtgdhgncdpmalcaaW.PrintMore
attribute [local go_sem] max2_int min2_int max_two min_two max_three min_three max_four min_four
set_option linter.unusedVariables false
set_option linter.unusedSimpArgs false

/-! ### spec_PolyBack: function 73 -/
def spec_PolyBack.l0 : Nat → List (S32) → List (S32) → Int → Option ((List (S32)) × Bool)
  | 0, _, _, _ => none
  | k + 1, x0, x4, x5 => if x5 > 0 then (if 0 ≤ x5 then (if x5 < (x0.length : Int) then (if x4.length < 8796093022208 then (spec_PolyBack.l0 k x0 (x4 ++ [(⟨(rd_T32 x0 x5).f0, (rd_T32 x0 x5).f1⟩ : S32)]) (wrap64 (x5 - 1))) else (none)) else (none)) else (none)) else (some (x4, true))
def spec_PolyBack.f (k : Nat) (l0 : List (S32)) : Option ((List (S32)) × Bool) := (spec_l31Points.f k l0).bind fun t150 => (if t150 = true then (if 0 < (l0.length : Int) then (spec_PolyBack.l0 k l0 (([(⟨(rd_T32 l0 0).f0, (rd_T32 l0 0).f1⟩ : S32)] : List (S32))) (wrap64 ((l0.length : Int) - 1))) else (none)) else (some ((([] : List (S32))), false)))
set_option maxHeartbeats 8000000 in
set_option maxRecDepth 100000 in
theorem spec_PolyBack.calls (k : Nat) (A0 : Option Addr) (c0 : Nat) (l0 : List (S32)) (r1 : List (S32)) (r2 : Bool) (w : World) (hr0 : Kd.C k32 w A0 l0.length l0) (hc0 : l0.length ≤ c0) (h : spec_PolyBack.f k l0 = some (r1, r2)) :
    Calls Try.prog 73 #[.slice A0 l0.length c0] w fun e w' => ∃ v0_ : Value, e = .returned (.tuple #[v0_, .bool r2]) ∧ Kd.R k32 32 w' w.heap.size (fun _ => True) v0_ r1 ∧ Below w.heap.size w w' := by
  have hu32 := Try.underlying32
  have HR0 := Aside0.mk hr0
  have HC0 := Aside0.mk hc0
  clear hr0 hc0
  have HB := Aside0.mk (Below.refl w.heap.size w)
  have H : ((spec_l31Points.f k l0).bind fun t150 => (if t150 = true then (if 0 < (l0.length : Int) then (spec_PolyBack.l0 k l0 (([(⟨(rd_T32 l0 0).f0, (rd_T32 l0 0).f1⟩ : S32)] : List (S32))) (wrap64 ((l0.length : Int) - 1))) else (none)) else (some ((([] : List (S32))), false)))) = some (r1, r2) := h
  clear h
  replace H := Option.bind_eq_some_iff.mp H
  obtain ⟨t150, A20, H⟩ := H
  replace H : (if t150 = true then (if 0 < (l0.length : Int) then (spec_PolyBack.l0 k l0 (([(⟨(rd_T32 l0 0).f0, (rd_T32 l0 0).f1⟩ : S32)] : List (S32))) (wrap64 ((l0.length : Int) - 1))) else (none)) else (some ((([] : List (S32))), false))) = some (r1, r2) := H
  have A2 := Aside0.mk A20
  clear A20
  by_cases c3 : t150 = true
  · subst c3
    have H1 : (if 0 < (l0.length : Int) then (spec_PolyBack.l0 k l0 (([(⟨(rd_T32 l0 0).f0, (rd_T32 l0 0).f1⟩ : S32)] : List (S32))) (wrap64 ((l0.length : Int) - 1))) else (none)) = some (r1, r2) := by rw [if_pos rfl] at H; exact H
    clear H
    have H := H1
    clear H1
    by_cases c4 : 0 < (l0.length : Int)
    · rw [if_pos c4] at H
      have c4b0 : decide (0 < (l0.length : Int)) = true := decide_eq_true c4
      have c4b1 : decide (0 < l0.length) = true := decide_eq_true (by omega)
      clear c4
      obtain ⟨y155, hy155⟩ : ∃ y_ : List (S32), y_ = (([(⟨(rd_T32 l0 0).f0, (rd_T32 l0 0).f1⟩ : S32)] : List (S32))) := ⟨_, rfl⟩
      replace H : (spec_PolyBack.l0 k l0 y155 (wrap64 ((l0.length : Int) - 1))) = some (r1, r2) := by first | (rw [hy155]; with_reducible exact H) | (have H2_ := (Option.bind_some _ _).symm.trans H; rw [hy155]; with_reducible exact H2_) | (have H2_ := (Option.bind_some _ _).symm.trans H; with_reducible exact H2_) | with_reducible exact H | (rw [hy155]; exact H) | exact H
      have Ny155 := Aside0.mk hy155
      clear hy155
      have H' := Aside0.mk H
      clear H
      go_enter Try.func73, Try.ntmps73
      go_wp2_with (first | ((with_reducible refine gate_callee (f := 45) rfl ?_); refine goesL_ (some 7) rfl rfl Try.func45 (by kernel_rfl) rfl #[.slice A0 l0.length c0] rfl qq3 ?_; (with_reducible refine (spec_l31Points.calls k _ _ l0 true _ ?side1 ?side2 A2.out).mono ?_); (case side1 => exact qq35); (case side2 => exact HC0.out); rintro e w5 ⟨rfl, hb⟩; refine ⟨_, rfl, ?_⟩; have n0_ := Aside0.mk (below_step qq1 hb); clear HB; have HB := n0_; clear n0_; (try clear hb); (try clear hb2); (try clear hk); (try clear hi); have p154 : 0 ≤ (0 : Int) := (by omega); have q154 : 0 < (l0.length : Int) := of_decide_eq_true qq10; obtain ⟨ad154, e154, hx154_0, hx154_1⟩ := at_T32 HR0.out 0 p154 q154; cases e154; have qi154 : (0 < l0.length) = True := eq_true (by omega); (try rw [show ((0 : Int)).toNat = 0 from rfl] at hx154_0); (try rw [show 0 * 2 = 0 from rfl] at hx154_0); (try rw [Addr.add_zero'] at hx154_0); (try rw [show ((0 : Int)).toNat = 0 from rfl] at hx154_1); (try rw [show 0 * 2 = 0 from rfl] at hx154_1); (try rw [Addr.add_zero'] at hx154_1); replace hx154_0 := (HB.out.cell (World.block_lt_of_cell? w _ hx154_0)).trans hx154_0; replace hx154_1 := (HB.out.cell (World.block_lt_of_cell? w _ hx154_1)).trans hx154_1; replace p154 := eq_true p154; replace q154 := eq_true q154) | ((with_reducible refine gate_dst (N := 13) rfl ?_); refine Kd.R_lit k32 _ 32 ?hg (N := 13) ?hd (xs := ([(⟨(rd_T32 l0 0).f0, (rd_T32 l0 0).f1⟩ : S32)] : List (S32))) (inner := [.int .i64 ((rd_T32 l0 0).f0), .int .i64 ((rd_T32 l0 0).f1)]) (ok := fun _ => True) (okp := fun _ => True) ?hr ?hp (fun _ hk => hk) trivial (Below.refl _ _) (Nat.le_refl _) (by simp) ?_; (case hd => rfl); (case hg => rfl); (case hr => exact qq23); (case hp => exact (Reps.c2 (show Kd.M k32 _ _ _ (⟨(rd_T32 l0 0).f0, (rd_T32 l0 0).f1⟩ : S32) [.int .i64 ((rd_T32 l0 0).f0), .int .i64 ((rd_T32 l0 0).f1)] from (k32_mkM _ _ _ (⟨(rd_T32 l0 0).f0, (rd_T32 l0 0).f1⟩ : S32) )) (Reps.none _ _))); intro v156 w6 ho7 hb hg_ hnew_; clear hg_ hnew_; (first | rw [← Ny155.out] at ho7 | (simp only [Int.reduceToNat] at ho7; rw [← Ny155.out] at ho7)); have n0_ := Aside0.mk (Kd.R_lower ho7 (below_size qq1)); have n1_ := Aside0.mk (below_step qq1 hb); clear HB; have HO157 := n0_; have HB := n1_; clear n0_ n1_; clear hb ho7))
      go_loopg [4, 5] k (fun kq v4 v5 w' => ∃ (x4_1 : List (S32)) (x5_1 : Int), v5 = .int .i64 x5_1 ∧ Aside0 (spec_PolyBack.l0 kq l0 x4_1 x5_1 = some (r1, r2)) ∧ Aside0 (kq ≤ k) ∧ Aside0 (Kd.R k32 32 w' w.heap.size (fun _ => True) v4 x4_1) ∧ Aside0 (Below w.heap.size w w'))
      case atStart => exact ⟨(y155), (wrap64 ((l0.length : Int) - 1)), qq24, H', ⟨Nat.le_refl _⟩, ⟨qq9 HO157.out⟩, ⟨qq1⟩⟩
      case round =>
        clear H'
        try clear p1
        try clear q1
        try clear hx1
        try clear qi1
        try clear c2
        try clear p2
        try clear c3
        try clear c4
        try clear c4b0
        try clear c4b1
        try clear p6
        try clear c7
        try clear hx154_0
        try clear hx154_1
        try clear p154
        try clear q154
        obtain ⟨x4_1, x5_1, rfl, HA, HK1, HO_4, HB⟩ := hrel
        cases gk with
        | zero => exact absurd HA.out (by simp [spec_PolyBack.l0])
        | succ k1 =>
          have H := HA.out
          clear HA
          simp only [spec_PolyBack.l0] at H
          by_cases c8 : x5_1 > 0
          · rw [if_pos c8] at H
            have c8b0 : decide (0 < x5_1) = true := decide_eq_true c8
            clear c8
            by_cases c9 : 0 ≤ x5_1
            · rw [if_pos c9] at H
              have c9b0 : decide (0 ≤ x5_1) = true := decide_eq_true c9
              clear c9
              by_cases c10 : x5_1 < (l0.length : Int)
              · rw [if_pos c10] at H
                have c10b0 : decide (x5_1 < (l0.length : Int)) = true := decide_eq_true c10
                clear c10
                by_cases c11 : x4_1.length < 8796093022208
                · rw [if_pos c11] at H
                  have LMc11 := Aside0.mk c11
                  clear c11
                  obtain ⟨y159, hy159⟩ : ∃ y_ : List (S32), y_ = (x4_1 ++ [(⟨(rd_T32 l0 x5_1).f0, (rd_T32 l0 x5_1).f1⟩ : S32)]) := ⟨_, rfl⟩
                  replace H : (spec_PolyBack.l0 k1 l0 y159 (wrap64 (x5_1 - 1))) = some (r1, r2) := by first | (rw [hy159]; with_reducible exact H) | (have H2_ := (Option.bind_some _ _).symm.trans H; rw [hy159]; with_reducible exact H2_) | (have H2_ := (Option.bind_some _ _).symm.trans H; with_reducible exact H2_) | with_reducible exact H | (rw [hy159]; exact H) | exact H
                  have Ny159 := Aside0.mk hy159
                  clear hy159
                  have H' := Aside0.mk H
                  clear H
                  have p158 : 0 ≤ (x5_1 : Int) := of_decide_eq_true qq10
                  have q158 : x5_1 < (l0.length : Int) := of_decide_eq_true qq10
                  obtain ⟨ad158, e158, hx158_0, hx158_1⟩ := at_T32 HR0.out x5_1 p158 q158
                  obtain rfl : ad154 = ad158 := (by injection e158)
                  replace hx158_0 := (HB.out.cell (World.block_lt_of_cell? w _ hx158_0)).trans hx158_0
                  replace hx158_1 := (HB.out.cell (World.block_lt_of_cell? w _ hx158_1)).trans hx158_1
                  replace p158 := eq_true p158
                  replace q158 := eq_true q158
                  go_wp2_with (first | ((with_reducible refine gate_builtin (b := .append) (xs := #[.tmp 21, .tmp 26]) rfl ?_); at_builtin; refine Kd.R_append k32 (w0 := w) w.heap.size rfl (.tmp 21) (.tmp 26) 23 32 (.agg #[(.int .i64 0), (.int .i64 0)]) 16 rfl Try.underlying23 info32 rfl (by decide) (by omega) u4 x4_1 (⟨(rd_T32 l0 x5_1).f0, (rd_T32 l0 x5_1).f1⟩ : S32) [.int .i64 ((rd_T32 l0 x5_1).f0), .int .i64 ((rd_T32 l0 x5_1).f1)] (fun _ => True) (fun _ => False) rfl rfl ?aP (fun _ hk => hk.elim) ?aF ?aO ?aB ?aS ?aL ?_; (case aP => exact k32_mkM _ _ _ (⟨(rd_T32 l0 x5_1).f0, (rd_T32 l0 x5_1).f1⟩ : S32)); (case aB => exact qq1); (case aF => exact (fun _ _ => trivial)); (case aO => exact (qq9 HO_4.out)); (case aS => exact (below_size qq1)); (case aL => have := LMc11.out; omega); intro v160 w12 ho hb hg hat; rw [← Ny159.out] at ho; have n0_ := Aside0.mk (hb); have n1_ := Aside0.mk (ho); clear HB; clear HO_4; have HB := n0_; have HO161 := n1_; clear n0_ n1_; clear ho hb hg hat))
                  go_roundg k1
                  case measure => have := HK1.out; omega
                  case rel => exact ⟨(y159), (wrap64 (x5_1 - 1)), qq24, H', ⟨by have := HK1.out; omega⟩, ⟨qq9 HO161.out⟩, ⟨qq1⟩⟩
                · rw [if_neg c11] at H
                  exact absurd H (by simp)
              · rw [if_neg c10] at H
                exact absurd H (by simp)
            · rw [if_neg c9] at H
              exact absurd H (by simp)
          · rw [if_neg c8] at H
            have c8b0 : decide (0 < x5_1) = false := decide_eq_false c8
            clear c8
            simp only [Option.some.injEq, Prod.mk.injEq] at H
            obtain ⟨rfl, rfl⟩ := H
            go_wp2
            go_ret2
            exact ⟨_, qq13, qq9 HO_4.out, qq1⟩
    · rw [if_neg c4] at H
      exact absurd H (by simp)
  · replace c3 := Bool.eq_false_iff.mpr c3
    subst c3
    have H1 : (some ((([] : List (S32))), false)) = some (r1, r2) := by rw [if_neg (show ¬ (false = true) by decide)] at H; exact H
    clear H
    have H := H1
    clear H1
    obtain ⟨y151, hy151⟩ : ∃ y_ : List (S32), y_ = (([] : List (S32))) := ⟨_, rfl⟩
    replace H : (some (y151, false)) = some (r1, r2) := by first | (rw [hy151]; with_reducible exact H) | (have H2_ := (Option.bind_some _ _).symm.trans H; rw [hy151]; with_reducible exact H2_) | (have H2_ := (Option.bind_some _ _).symm.trans H; with_reducible exact H2_) | with_reducible exact H | (rw [hy151]; exact H) | exact H
    have Ny151 := Aside0.mk hy151
    clear hy151
    simp only [Option.some.injEq, Prod.mk.injEq] at H
    obtain ⟨rfl, rfl⟩ := H
    go_enter Try.func73, Try.ntmps73
    go_wp2_with (first | ((with_reducible refine gate_callee (f := 45) rfl ?_); refine goesL_ (some 7) rfl rfl Try.func45 (by kernel_rfl) rfl #[.slice A0 l0.length c0] rfl qq3 ?_; (with_reducible refine (spec_l31Points.calls k _ _ l0 false _ ?side1 ?side2 A2.out).mono ?_); (case side1 => exact qq35); (case side2 => exact HC0.out); rintro e w13 ⟨rfl, hb⟩; refine ⟨_, rfl, ?_⟩; have n0_ := Aside0.mk (below_step qq1 hb); clear HB; have HB := n0_; clear n0_; (try clear hb); (try clear hb2); (try clear hk); (try clear hi)) | ((with_reducible refine gate_dst (N := 9) rfl ?_); refine Kd.R_lit k32 _ 32 ?hg (N := 9) ?hd (xs := ([] : List (S32))) (inner := []) (ok := fun _ => True) (okp := fun _ => True) ?hr ?hp (fun _ hk => hk) trivial (Below.refl _ _) (Nat.le_refl _) (by simp) ?_; (case hd => rfl); (case hg => rfl); (case hr => exact qq23); (case hp => exact (Reps.none _ _)); intro v152 w14 ho15 hb hg_ hnew_; clear hg_ hnew_; (first | rw [← Ny151.out] at ho15 | (simp only [Int.reduceToNat] at ho15; rw [← Ny151.out] at ho15)); have n0_ := Aside0.mk (Kd.R_lower ho15 (below_size qq1)); have n1_ := Aside0.mk (below_step qq1 hb); clear HB; have HO153 := n0_; have HB := n1_; clear n0_ n1_; clear hb ho15))
    go_ret2
    exact ⟨_, qq13, qq9 HO153.out, qq1⟩

end Go.Proofs.Ytgdhgncdpmalcaa.Q
namespace Go.Proofs.Ytgdhgncdpmalcaa.Q
open Go.RowKit Go.Proofs.YtgdhgncdpmalcaaW.PrintWords Go.Proofs.YtgdhgncdpmalcaaW.PrintLast Go.Proofs.YtgdhgncdpmalcaaW.PrintMore
attribute [local go_sem] max2_int min2_int max_two min_two max_three min_three max_four min_four
set_option linter.unusedVariables false
set_option linter.unusedSimpArgs false

/-! ### spec_l92Poly: function 41 -/
def spec_l92Poly.l0 : Nat → List (S32) → Int → Int → List Int → Int → Option ((List (S32)) × Int)
  | 0, _, _, _, _, _ => none
  | k + 1, x3, x4, x5, x1000, x1001 => if x5 < x4 then ((spec_l91Point.f k x1000 x1001).bind fun bt169 => (if x3.length < 8796093022208 then (spec_l92Poly.l0 k (x3 ++ [(⟨bt169.1, bt169.2.1⟩ : S32)]) x4 (wrap64 (x5 + 1)) x1000 bt169.2.2) else (none))) else (some (x3, x1001))
def spec_l92Poly.f (k : Nat) (s0_0 : List Int) (s0_1 : Int) : Option ((List (S32)) × Int) := (spec_l6Rd_pick.f k s0_0 s0_1 8).bind fun bt162 => (if bt162.1 = 0 then ((spec_l6Rd_pick.f k s0_0 bt162.2 6).bind fun bt167 => (spec_l92Poly.l0 k (([] : List (S32))) bt167.1 0 s0_0 bt167.2)) else (if bt162.1 = 1 then ((spec_l92Box.f k s0_0 bt162.2).bind fun bt175 => (some (bt175.1, bt175.2))) else (if bt162.1 = 2 then ((spec_l92Box.f k s0_0 bt162.2).bind fun bt179 => (some (bt179.1, bt179.2))) else (if bt162.1 = 3 then ((spec_l92Box.f k s0_0 bt162.2).bind fun bt183 => (some (bt183.1, bt183.2))) else ((spec_l92Star.f k s0_0 bt162.2).bind fun bt187 => ((spec_l6Rd_pick.f k s0_0 bt187.2 5).bind fun bt191 => (if bt191.1 = 0 then ((spec_PolyBack.f k bt187.1).bind fun bt193 => (some (bt193.1, bt191.2))) else (some (bt187.1, bt191.2)))))))))
set_option maxHeartbeats 8000000 in
set_option maxRecDepth 100000 in
theorem spec_l92Poly.calls (k : Nat) (g : Nat) (s0_0 : List Int) (s0_1 : Int) (r1 : List (S32)) (r2 : Int) (w0 w : World) (hI : IsS81 w0 w g s0_0 s0_1) (hB : Below w0.heap.size w0 w) (h : spec_l92Poly.f k s0_0 s0_1 = some (r1, r2)) :
    Calls Try.prog 41 #[.pointer (some ⟨g, 0, none⟩)] w fun e w' => ∃ v0_ : Value, e = .returned (v0_) ∧ Kd.Q k32 32 w' w.heap.size (fun _ => True) v0_ r1 ∧ IsS81 w0 w' g s0_0 r2 ∧ Below w0.heap.size w0 w' ∧ KeepBut w w' g none := by
  have HI0 := Aside0.mk hI
  have HK := Aside0.mk (KeepBut.refl w g none)
  have HL := Aside0.mk hB.size
  clear hI
  have HW0 := Aside0.mk hB.size
  have HB := Aside0.mk hB
  clear hB
  have H : ((spec_l6Rd_pick.f k s0_0 s0_1 8).bind fun bt162 => (if bt162.1 = 0 then ((spec_l6Rd_pick.f k s0_0 bt162.2 6).bind fun bt167 => (spec_l92Poly.l0 k (([] : List (S32))) bt167.1 0 s0_0 bt167.2)) else (if bt162.1 = 1 then ((spec_l92Box.f k s0_0 bt162.2).bind fun bt175 => (some (bt175.1, bt175.2))) else (if bt162.1 = 2 then ((spec_l92Box.f k s0_0 bt162.2).bind fun bt179 => (some (bt179.1, bt179.2))) else (if bt162.1 = 3 then ((spec_l92Box.f k s0_0 bt162.2).bind fun bt183 => (some (bt183.1, bt183.2))) else ((spec_l92Star.f k s0_0 bt162.2).bind fun bt187 => ((spec_l6Rd_pick.f k s0_0 bt187.2 5).bind fun bt191 => (if bt191.1 = 0 then ((spec_PolyBack.f k bt187.1).bind fun bt193 => (some (bt193.1, bt191.2))) else (some (bt187.1, bt191.2)))))))))) = some (r1, r2) := h
  clear h
  replace H := Option.bind_eq_some_iff.mp H
  obtain ⟨⟨t162, t163⟩, A20, H⟩ := H
  replace H : (if t162 = 0 then ((spec_l6Rd_pick.f k s0_0 t163 6).bind fun bt167 => (spec_l92Poly.l0 k (([] : List (S32))) bt167.1 0 s0_0 bt167.2)) else (if t162 = 1 then ((spec_l92Box.f k s0_0 t163).bind fun bt175 => (some (bt175.1, bt175.2))) else (if t162 = 2 then ((spec_l92Box.f k s0_0 t163).bind fun bt179 => (some (bt179.1, bt179.2))) else (if t162 = 3 then ((spec_l92Box.f k s0_0 t163).bind fun bt183 => (some (bt183.1, bt183.2))) else ((spec_l92Star.f k s0_0 t163).bind fun bt187 => ((spec_l6Rd_pick.f k s0_0 bt187.2 5).bind fun bt191 => (if bt191.1 = 0 then ((spec_PolyBack.f k bt187.1).bind fun bt193 => (some (bt193.1, bt191.2))) else (some (bt187.1, bt191.2))))))))) = some (r1, r2) := H
  have A2 := Aside0.mk A20
  clear A20
  by_cases c3 : t162 = 0
  · rw [if_pos c3] at H
    have c3b0 : (t162 == 0) = true := beq_iff_eq.mpr c3
    have c3b1 : (t162 != 0) = false := bne_eq_false_iff_eq.mpr c3
    clear c3
    obtain ⟨y164, hy164⟩ : ∃ y_ : List (S32), y_ = (([] : List (S32))) := ⟨_, rfl⟩
    replace H : ((spec_l6Rd_pick.f k s0_0 t163 6).bind fun bt167 => (spec_l92Poly.l0 k y164 bt167.1 0 s0_0 bt167.2)) = some (r1, r2) := by first | (rw [hy164]; with_reducible exact H) | (have H2_ := (Option.bind_some _ _).symm.trans H; rw [hy164]; with_reducible exact H2_) | (have H2_ := (Option.bind_some _ _).symm.trans H; with_reducible exact H2_) | with_reducible exact H | (rw [hy164]; exact H) | exact H
    have Ny164 := Aside0.mk hy164
    clear hy164
    replace H := Option.bind_eq_some_iff.mp H
    obtain ⟨⟨t167, t168⟩, A40, H⟩ := H
    replace H : (spec_l92Poly.l0 k y164 t167 0 s0_0 t168) = some (r1, r2) := H
    have A4 := Aside0.mk A40
    clear A40
    have H' := Aside0.mk H
    clear H
    go_enter Try.func41, Try.ntmps41
    go_wp2_with (first | ((with_reducible refine gate_callee (f := 48) rfl ?_); refine goesL_ (some 10) rfl rfl Try.func48 (by kernel_rfl) rfl #[.pointer (some ⟨g, 0, none⟩), .int .i64 8] rfl qq3 ?_; (with_reducible refine (spec_l6Rd_pick.calls k g s0_0 s0_1 8 t162 t163 w0 _ ?side1 ?side2 A2.out).mono ?_); (case side1 => exact qq7); (case side2 => exact qq5 HB.out HI0.out); rintro e w5 ⟨rfl, hi, hb, hk⟩; refine ⟨_, rfl, ?_⟩; have n0_ := Aside0.mk (KeepBut.trans qq4 hk (.inl rfl)); have n1_ := Aside0.mk (hb); have n2_ := Aside0.mk (hi); clear HK; clear HB; clear HI0; have HK := n0_; have HB := n1_; have HI0 := n2_; clear n0_ n1_ n2_; (try clear hb); (try clear hb2); (try clear hk); (try clear hi)) | ((with_reducible refine gate_dst (N := 13) rfl ?_); refine Kd.R_lit k32 _ 32 ?hg (N := 13) ?hd (xs := ([] : List (S32))) (inner := []) (ok := fun _ => True) (okp := fun _ => True) ?hr ?hp (fun _ hk => hk) trivial (Below.refl _ _) (Nat.le_refl _) (by simp) ?_; (case hd => rfl); (case hg => rfl); (case hr => exact qq23); (case hp => exact (Reps.none _ _)); intro v165 w6 ho7 hb hg_ hnew_; clear hg_ hnew_; (first | rw [← Ny164.out] at ho7 | (simp only [Int.reduceToNat] at ho7; rw [← Ny164.out] at ho7)); have n0_ := Aside0.mk (Kd.R_lower ho7 (keep_size (w := w) (g := g) (row := none) qq4)); have n1_ := Aside0.mk (IsS81.below qq7 hb); have n2_ := Aside0.mk (KeepBut.trans qq4 (KeepBut.of_below hb g none) (.inl rfl)); have n3_ := Aside0.mk (below_step (qq5 HB.out HI0.out) hb); clear HI0; clear HK; clear HB; have HO166 := n0_; have HI0 := n1_; have HK := n2_; have HB := n3_; clear n0_ n1_ n2_ n3_; clear hb ho7) | ((with_reducible refine gate_callee (f := 48) rfl ?_); refine goesL_ (some 15) rfl rfl Try.func48 (by kernel_rfl) rfl #[.pointer (some ⟨g, 0, none⟩), .int .i64 6] rfl qq3 ?_; (with_reducible refine (spec_l6Rd_pick.calls k g s0_0 t163 6 t167 t168 w0 _ ?side1 ?side2 A4.out).mono ?_); (case side1 => exact qq7); (case side2 => exact qq5 HB.out HI0.out); rintro e w8 ⟨rfl, hi, hb, hk⟩; refine ⟨_, rfl, ?_⟩; have n0_ := Aside0.mk (Kd.R_mono (Kd.R_keep (IsS81.apart (show IsS81 w0 _ g s0_0 t163 from by repeat (first | (with_reducible first | exact HI0.out | apply IsS81.alloc | apply IsS81.drewN | apply IsS81.drew | apply IsS81.set_1) | exact HI0.out)) (qq9 HO166.out) (by decide)) hk (fun _ h => h.2)) (fun _ h => h.1)); have n1_ := Aside0.mk (KeepBut.trans qq4 hk (.inl rfl)); have n2_ := Aside0.mk (hb); have n3_ := Aside0.mk (hi); clear HO166; clear HK; clear HB; clear HI0; have HO166 := n0_; have HK := n1_; have HB := n2_; have HI0 := n3_; clear n0_ n1_ n2_ n3_; (try clear hb); (try clear hb2); (try clear hk); (try clear hi)))
    go_loopg [3, 5] k (fun kq v3 v5 w' => ∃ (x3_1 : List (S32)) (x5_1 : Int) (x1001_1 : Int), v5 = .int .i64 x5_1 ∧ Aside0 (spec_l92Poly.l0 kq x3_1 t167 x5_1 s0_0 x1001_1 = some (r1, r2)) ∧ Aside0 (kq ≤ k) ∧ Aside0 (Kd.R k32 32 w' w.heap.size (fun _ => True) v3 x3_1) ∧ Aside0 (IsS81 w0 w' g s0_0 x1001_1) ∧ Aside0 (KeepBut w w' g none) ∧ Aside0 (Below w0.heap.size w0 w'))
    case atStart => exact ⟨(y164), (0), (t168), qq24, H', ⟨Nat.le_refl _⟩, ⟨qq9 HO166.out⟩, ⟨qq7⟩, ⟨qq4⟩, ⟨qq5 HB.out HI0.out⟩⟩
    case round =>
      clear H'
      try clear p2
      try clear c3
      try clear c3b0
      try clear c3b1
      try clear c4
      obtain ⟨x3_1, x5_1, x1001_1, rfl, HA, HK1, HO_3, HI0, HK, HB⟩ := hrel
      cases gk with
      | zero => exact absurd HA.out (by simp [spec_l92Poly.l0])
      | succ k1 =>
        have H := HA.out
        clear HA
        simp only [spec_l92Poly.l0] at H
        by_cases c9 : x5_1 < t167
        · rw [if_pos c9] at H
          have c9b0 : decide (x5_1 < t167) = true := decide_eq_true c9
          clear c9
          replace H := Option.bind_eq_some_iff.mp H
          obtain ⟨⟨t169, t170, t171⟩, A100, H⟩ := H
          replace H : (if x3_1.length < 8796093022208 then (spec_l92Poly.l0 k1 (x3_1 ++ [(⟨t169, t170⟩ : S32)]) t167 (wrap64 (x5_1 + 1)) s0_0 t171) else (none)) = some (r1, r2) := H
          have A10 := Aside0.mk A100
          clear A100
          by_cases c11 : x3_1.length < 8796093022208
          · rw [if_pos c11] at H
            have LMc11 := Aside0.mk c11
            clear c11
            obtain ⟨y172, hy172⟩ : ∃ y_ : List (S32), y_ = (x3_1 ++ [(⟨t169, t170⟩ : S32)]) := ⟨_, rfl⟩
            replace H : (spec_l92Poly.l0 k1 y172 t167 (wrap64 (x5_1 + 1)) s0_0 t171) = some (r1, r2) := by first | (rw [hy172]; with_reducible exact H) | (have H2_ := (Option.bind_some _ _).symm.trans H; rw [hy172]; with_reducible exact H2_) | (have H2_ := (Option.bind_some _ _).symm.trans H; with_reducible exact H2_) | with_reducible exact H | (rw [hy172]; exact H) | exact H
            have Ny172 := Aside0.mk hy172
            clear hy172
            have H' := Aside0.mk H
            clear H
            go_wp2_with (first | ((with_reducible refine gate_callee (f := 55) rfl ?_); refine goesL_ (some 23) rfl rfl Try.func55 (by kernel_rfl) rfl #[.pointer (some ⟨g, 0, none⟩)] rfl qq3 ?_; (with_reducible refine (spec_l91Point.calls k1 g s0_0 x1001_1 t169 t170 t171 w0 _ ?side1 ?side2 A10.out).mono ?_); (case side1 => exact qq7); (case side2 => exact qq5 HB.out HI0.out); rintro e w12 ⟨rfl, hi, hb, hk⟩; refine ⟨_, rfl, ?_⟩; have n0_ := Aside0.mk (Kd.R_mono (Kd.R_keep (IsS81.apart (show IsS81 w0 _ g s0_0 x1001_1 from by repeat (first | (with_reducible first | exact HI0.out | apply IsS81.alloc | apply IsS81.drewN | apply IsS81.drew | apply IsS81.set_1) | exact HI0.out)) (qq9 HO_3.out) (by decide)) hk (fun _ h => h.2)) (fun _ h => h.1)); have n1_ := Aside0.mk (KeepBut.trans qq4 hk (.inl rfl)); have n2_ := Aside0.mk (hb); have n3_ := Aside0.mk (hi); clear HO_3; clear HK; clear HB; clear HI0; have HO_3 := n0_; have HK := n1_; have HB := n2_; have HI0 := n3_; clear n0_ n1_ n2_ n3_; (try clear hb); (try clear hb2); (try clear hk); (try clear hi)) | ((with_reducible refine gate_builtin (b := .append) (xs := #[.tmp 21, .tmp 24]) rfl ?_); at_builtin; refine Kd.R_append k32 w.heap.size rfl (.tmp 21) (.tmp 24) 23 32 (.agg #[(.int .i64 0), (.int .i64 0)]) 16 rfl Try.underlying23 info32 rfl (by decide) (by omega) u3 x3_1 (⟨t169, t170⟩ : S32) [.int .i64 t169, .int .i64 t170] (fun _ => True) (fun _ => False) rfl rfl ?aP (fun _ hk => hk.elim) ?aF ?aO (Below.refl _ _) ?aS ?aL ?_; (case aP => exact k32_mkM _ _ _ (⟨t169, t170⟩ : S32)); (case aF => exact (fun _ _ => trivial)); (case aO => exact (qq9 HO_3.out)); (case aS => exact qq69); (case aL => have := LMc11.out; omega); intro v173 w13 ho hb hg hat; rw [← Ny172.out] at ho; have n0_ := Aside0.mk (IsS81.grown qq7 hg (IsS81.own_ne HI0.out HO_3.out (by decide))); have n1_ := Aside0.mk (below_weaken (qq5 HB.out HI0.out) HL.out hb); have n2_ := Aside0.mk (KeepBut.trans qq4 (KeepBut.of_grown hg g) (Kd.R_base2 HO_3.out)); have n3_ := Aside0.mk (ho); clear HI0; clear HB; clear HK; clear HO_3; have HI0 := n0_; have HB := n1_; have HK := n2_; have HO174 := n3_; clear n0_ n1_ n2_ n3_; clear ho hb hg hat))
            go_roundg k1
            case measure => have := HK1.out; omega
            case rel => exact ⟨(y172), (wrap64 (x5_1 + 1)), (t171), qq24, H', ⟨by have := HK1.out; omega⟩, ⟨qq9 HO174.out⟩, ⟨qq7⟩, ⟨qq4⟩, ⟨qq5 HB.out HI0.out⟩⟩
          · rw [if_neg c11] at H
            exact absurd H (by simp)
        · rw [if_neg c9] at H
          have c9b0 : decide (x5_1 < t167) = false := decide_eq_false c9
          clear c9
          simp only [Option.some.injEq, Prod.mk.injEq] at H
          obtain ⟨rfl, rfl⟩ := H
          go_wp2
          go_ret
          exact ⟨_, qq13, Kd.Q_of_R (qq9 HO_3.out), qq7, qq5 HB.out HI0.out, qq4⟩
  · rw [if_neg c3] at H
    have c3b0 : (t162 == 0) = false := beq_eq_false_iff_ne.mpr c3
    have c3b1 : (t162 != 0) = true := bne_iff_ne.mpr c3
    by_cases c14 : t162 = 1
    · rw [if_pos c14] at H
      have c14b0 : (t162 == 1) = true := beq_iff_eq.mpr c14
      have c14b1 : (t162 != 1) = false := bne_eq_false_iff_eq.mpr c14
      clear c14
      replace H := Option.bind_eq_some_iff.mp H
      obtain ⟨⟨t175, t178⟩, A150, H⟩ := H
      replace H : (some (t175, t178)) = some (r1, r2) := H
      have A15 := Aside0.mk A150
      clear A150
      simp only [Option.some.injEq, Prod.mk.injEq] at H
      obtain ⟨rfl, rfl⟩ := H
      go_enter Try.func41, Try.ntmps41
      go_wp2_with (first | ((with_reducible refine gate_callee (f := 48) rfl ?_); refine goesL_ (some 10) rfl rfl Try.func48 (by kernel_rfl) rfl #[.pointer (some ⟨g, 0, none⟩), .int .i64 8] rfl qq3 ?_; (with_reducible refine (spec_l6Rd_pick.calls k g s0_0 s0_1 8 t162 t163 w0 _ ?side1 ?side2 A2.out).mono ?_); (case side1 => exact qq7); (case side2 => exact qq5 HB.out HI0.out); rintro e w16 ⟨rfl, hi, hb, hk⟩; refine ⟨_, rfl, ?_⟩; have n0_ := Aside0.mk (KeepBut.trans qq4 hk (.inl rfl)); have n1_ := Aside0.mk (hb); have n2_ := Aside0.mk (hi); clear HK; clear HB; clear HI0; have HK := n0_; have HB := n1_; have HI0 := n2_; clear n0_ n1_ n2_; (try clear hb); (try clear hb2); (try clear hk); (try clear hi)) | ((with_reducible refine gate_callee (f := 59) rfl ?_); refine goesL_ (some 32) rfl rfl Try.func59 (by kernel_rfl) rfl #[.pointer (some ⟨g, 0, none⟩)] rfl qq3 ?_; (with_reducible refine (spec_l92Box.calls k g s0_0 t163 t175 t178 w0 _ ?side1 ?side2 A15.out).mono ?_); (case side1 => exact qq7); (case side2 => exact qq5 HB.out HI0.out); rintro e w17 ⟨v176, rfl, ho0, hi, hb, hk⟩; refine ⟨_, rfl, ?_⟩; have n0_ := Aside0.mk (Kd.Q_lower ho0 (keep_size (w := w) (g := g) (row := none) qq4)); have n1_ := Aside0.mk (KeepBut.trans qq4 hk (.inl rfl)); have n2_ := Aside0.mk (hb); have n3_ := Aside0.mk (hi); clear HK; clear HB; clear HI0; have HO177 := n0_; have HK := n1_; have HB := n2_; have HI0 := n3_; clear n0_ n1_ n2_ n3_; (try clear hb); (try clear hb2); (try clear hk); (try clear hi); (try clear ho0)))
      go_ret
      exact ⟨_, qq13, qq17 HO177.out, qq7, qq5 HB.out HI0.out, qq4⟩
    · rw [if_neg c14] at H
      have c14b0 : (t162 == 1) = false := beq_eq_false_iff_ne.mpr c14
      have c14b1 : (t162 != 1) = true := bne_iff_ne.mpr c14
      by_cases c18 : t162 = 2
      · rw [if_pos c18] at H
        have c18b0 : (t162 == 2) = true := beq_iff_eq.mpr c18
        have c18b1 : (t162 != 2) = false := bne_eq_false_iff_eq.mpr c18
        clear c18
        replace H := Option.bind_eq_some_iff.mp H
        obtain ⟨⟨t179, t182⟩, A190, H⟩ := H
        replace H : (some (t179, t182)) = some (r1, r2) := H
        have A19 := Aside0.mk A190
        clear A190
        simp only [Option.some.injEq, Prod.mk.injEq] at H
        obtain ⟨rfl, rfl⟩ := H
        go_enter Try.func41, Try.ntmps41
        go_wp2_with (first | ((with_reducible refine gate_callee (f := 48) rfl ?_); refine goesL_ (some 10) rfl rfl Try.func48 (by kernel_rfl) rfl #[.pointer (some ⟨g, 0, none⟩), .int .i64 8] rfl qq3 ?_; (with_reducible refine (spec_l6Rd_pick.calls k g s0_0 s0_1 8 t162 t163 w0 _ ?side1 ?side2 A2.out).mono ?_); (case side1 => exact qq7); (case side2 => exact qq5 HB.out HI0.out); rintro e w20 ⟨rfl, hi, hb, hk⟩; refine ⟨_, rfl, ?_⟩; have n0_ := Aside0.mk (KeepBut.trans qq4 hk (.inl rfl)); have n1_ := Aside0.mk (hb); have n2_ := Aside0.mk (hi); clear HK; clear HB; clear HI0; have HK := n0_; have HB := n1_; have HI0 := n2_; clear n0_ n1_ n2_; (try clear hb); (try clear hb2); (try clear hk); (try clear hi)) | ((with_reducible refine gate_callee (f := 59) rfl ?_); refine goesL_ (some 32) rfl rfl Try.func59 (by kernel_rfl) rfl #[.pointer (some ⟨g, 0, none⟩)] rfl qq3 ?_; (with_reducible refine (spec_l92Box.calls k g s0_0 t163 t179 t182 w0 _ ?side1 ?side2 A19.out).mono ?_); (case side1 => exact qq7); (case side2 => exact qq5 HB.out HI0.out); rintro e w21 ⟨v180, rfl, ho0, hi, hb, hk⟩; refine ⟨_, rfl, ?_⟩; have n0_ := Aside0.mk (Kd.Q_lower ho0 (keep_size (w := w) (g := g) (row := none) qq4)); have n1_ := Aside0.mk (KeepBut.trans qq4 hk (.inl rfl)); have n2_ := Aside0.mk (hb); have n3_ := Aside0.mk (hi); clear HK; clear HB; clear HI0; have HO181 := n0_; have HK := n1_; have HB := n2_; have HI0 := n3_; clear n0_ n1_ n2_ n3_; (try clear hb); (try clear hb2); (try clear hk); (try clear hi); (try clear ho0)))
        go_ret
        exact ⟨_, qq13, qq17 HO181.out, qq7, qq5 HB.out HI0.out, qq4⟩
      · rw [if_neg c18] at H
        have c18b0 : (t162 == 2) = false := beq_eq_false_iff_ne.mpr c18
        have c18b1 : (t162 != 2) = true := bne_iff_ne.mpr c18
        by_cases c22 : t162 = 3
        · rw [if_pos c22] at H
          have c22b0 : (t162 == 3) = true := beq_iff_eq.mpr c22
          have c22b1 : (t162 != 3) = false := bne_eq_false_iff_eq.mpr c22
          clear c22
          replace H := Option.bind_eq_some_iff.mp H
          obtain ⟨⟨t183, t186⟩, A230, H⟩ := H
          replace H : (some (t183, t186)) = some (r1, r2) := H
          have A23 := Aside0.mk A230
          clear A230
          simp only [Option.some.injEq, Prod.mk.injEq] at H
          obtain ⟨rfl, rfl⟩ := H
          go_enter Try.func41, Try.ntmps41
          go_wp2_with (first | ((with_reducible refine gate_callee (f := 48) rfl ?_); refine goesL_ (some 10) rfl rfl Try.func48 (by kernel_rfl) rfl #[.pointer (some ⟨g, 0, none⟩), .int .i64 8] rfl qq3 ?_; (with_reducible refine (spec_l6Rd_pick.calls k g s0_0 s0_1 8 t162 t163 w0 _ ?side1 ?side2 A2.out).mono ?_); (case side1 => exact qq7); (case side2 => exact qq5 HB.out HI0.out); rintro e w24 ⟨rfl, hi, hb, hk⟩; refine ⟨_, rfl, ?_⟩; have n0_ := Aside0.mk (KeepBut.trans qq4 hk (.inl rfl)); have n1_ := Aside0.mk (hb); have n2_ := Aside0.mk (hi); clear HK; clear HB; clear HI0; have HK := n0_; have HB := n1_; have HI0 := n2_; clear n0_ n1_ n2_; (try clear hb); (try clear hb2); (try clear hk); (try clear hi)) | ((with_reducible refine gate_callee (f := 59) rfl ?_); refine goesL_ (some 32) rfl rfl Try.func59 (by kernel_rfl) rfl #[.pointer (some ⟨g, 0, none⟩)] rfl qq3 ?_; (with_reducible refine (spec_l92Box.calls k g s0_0 t163 t183 t186 w0 _ ?side1 ?side2 A23.out).mono ?_); (case side1 => exact qq7); (case side2 => exact qq5 HB.out HI0.out); rintro e w25 ⟨v184, rfl, ho0, hi, hb, hk⟩; refine ⟨_, rfl, ?_⟩; have n0_ := Aside0.mk (Kd.Q_lower ho0 (keep_size (w := w) (g := g) (row := none) qq4)); have n1_ := Aside0.mk (KeepBut.trans qq4 hk (.inl rfl)); have n2_ := Aside0.mk (hb); have n3_ := Aside0.mk (hi); clear HK; clear HB; clear HI0; have HO185 := n0_; have HK := n1_; have HB := n2_; have HI0 := n3_; clear n0_ n1_ n2_ n3_; (try clear hb); (try clear hb2); (try clear hk); (try clear hi); (try clear ho0)))
          go_ret
          exact ⟨_, qq13, qq17 HO185.out, qq7, qq5 HB.out HI0.out, qq4⟩
        · rw [if_neg c22] at H
          have c22b0 : (t162 == 3) = false := beq_eq_false_iff_ne.mpr c22
          have c22b1 : (t162 != 3) = true := bne_iff_ne.mpr c22
          replace H := Option.bind_eq_some_iff.mp H
          obtain ⟨⟨t187, t190⟩, A260, H⟩ := H
          replace H : ((spec_l6Rd_pick.f k s0_0 t190 5).bind fun bt191 => (if bt191.1 = 0 then ((spec_PolyBack.f k t187).bind fun bt193 => (some (bt193.1, bt191.2))) else (some (t187, bt191.2)))) = some (r1, r2) := H
          have A26 := Aside0.mk A260
          clear A260
          replace H := Option.bind_eq_some_iff.mp H
          obtain ⟨⟨t191, t192⟩, A270, H⟩ := H
          replace H : (if t191 = 0 then ((spec_PolyBack.f k t187).bind fun bt193 => (some (bt193.1, t192))) else (some (t187, t192))) = some (r1, r2) := H
          have A27 := Aside0.mk A270
          clear A270
          by_cases c28 : t191 = 0
          · rw [if_pos c28] at H
            have c28b0 : (t191 == 0) = true := beq_iff_eq.mpr c28
            have c28b1 : (t191 != 0) = false := bne_eq_false_iff_eq.mpr c28
            clear c28
            replace H := Option.bind_eq_some_iff.mp H
            obtain ⟨⟨t193, t194⟩, A290, H⟩ := H
            replace H : (some (t193, t192)) = some (r1, r2) := H
            have A29 := Aside0.mk A290
            clear A290
            simp only [Option.some.injEq, Prod.mk.injEq] at H
            obtain ⟨rfl, rfl⟩ := H
            go_enter Try.func41, Try.ntmps41
            go_wp2_with (first | ((with_reducible refine gate_callee (f := 48) rfl ?_); refine goesL_ (some 10) rfl rfl Try.func48 (by kernel_rfl) rfl #[.pointer (some ⟨g, 0, none⟩), .int .i64 8] rfl qq3 ?_; (with_reducible refine (spec_l6Rd_pick.calls k g s0_0 s0_1 8 t162 t163 w0 _ ?side1 ?side2 A2.out).mono ?_); (case side1 => exact qq7); (case side2 => exact qq5 HB.out HI0.out); rintro e w30 ⟨rfl, hi, hb, hk⟩; refine ⟨_, rfl, ?_⟩; have n0_ := Aside0.mk (KeepBut.trans qq4 hk (.inl rfl)); have n1_ := Aside0.mk (hb); have n2_ := Aside0.mk (hi); clear HK; clear HB; clear HI0; have HK := n0_; have HB := n1_; have HI0 := n2_; clear n0_ n1_ n2_; (try clear hb); (try clear hb2); (try clear hk); (try clear hi)) | ((with_reducible refine gate_callee (f := 72) rfl ?_); refine goesL_ (some 34) rfl rfl Try.func72 (by kernel_rfl) rfl #[.pointer (some ⟨g, 0, none⟩)] rfl qq3 ?_; (with_reducible refine (spec_l92Star.calls k g s0_0 t163 t187 t190 w0 _ ?side1 ?side2 A26.out).mono ?_); (case side1 => exact qq7); (case side2 => exact qq5 HB.out HI0.out); rintro e w31 ⟨v188, rfl, ho0, hi, hb, hk⟩; refine ⟨_, rfl, ?_⟩; have n0_ := Aside0.mk (Kd.R_lower ho0 (keep_size (w := w) (g := g) (row := none) qq4)); have n1_ := Aside0.mk (KeepBut.trans qq4 hk (.inl rfl)); have n2_ := Aside0.mk (hb); have n3_ := Aside0.mk (hi); clear HK; clear HB; clear HI0; have HO189 := n0_; have HK := n1_; have HB := n2_; have HI0 := n3_; clear n0_ n1_ n2_ n3_; (try clear hb); (try clear hb2); (try clear hk); (try clear hi); (try clear ho0)) | ((with_reducible refine gate_callee (f := 48) rfl ?_); refine goesL_ (some 36) rfl rfl Try.func48 (by kernel_rfl) rfl #[.pointer (some ⟨g, 0, none⟩), .int .i64 5] rfl qq3 ?_; (with_reducible refine (spec_l6Rd_pick.calls k g s0_0 t190 5 t191 t192 w0 _ ?side1 ?side2 A27.out).mono ?_); (case side1 => exact qq7); (case side2 => exact qq5 HB.out HI0.out); rintro e w32 ⟨rfl, hi, hb, hk⟩; refine ⟨_, rfl, ?_⟩; have n0_ := Aside0.mk (Kd.R_mono (Kd.R_keep (IsS81.apart (show IsS81 w0 _ g s0_0 t190 from by repeat (first | (with_reducible first | exact HI0.out | apply IsS81.alloc | apply IsS81.drewN | apply IsS81.drew | apply IsS81.set_1) | exact HI0.out)) (qq9 HO189.out) (by decide)) hk (fun _ h => h.2)) (fun _ h => h.1)); have n1_ := Aside0.mk (KeepBut.trans qq4 hk (.inl rfl)); have n2_ := Aside0.mk (hb); have n3_ := Aside0.mk (hi); clear HO189; clear HK; clear HB; clear HI0; have HO189 := n0_; have HK := n1_; have HB := n2_; have HI0 := n3_; clear n0_ n1_ n2_ n3_; (try clear hb); (try clear hb2); (try clear hk); (try clear hi); obtain ⟨Ao33, co33, eo33⟩ := Kd.R_slice HO189.out; subst eo33) | ((with_reducible refine gate_callee (f := 73) rfl ?_); refine goesL_ (some 40) rfl rfl Try.func73 (by kernel_rfl) rfl #[.slice Ao33 t187.length co33] rfl qq3 ?_; (with_reducible refine (spec_PolyBack.calls k _ _ t187 t193 t194 _ ?side1 ?side2 A29.out).mono ?_); (case side1 => exact qq33 HO189.out); (case side2 => exact (Kd.R_reads' HO189.out).2.1); rintro e w34 ⟨v195, rfl, ho0, hb⟩; refine ⟨_, rfl, ?_⟩; have n0_ := Aside0.mk (Kd.R_elder' (qq9 HO189.out) (Kd.R_base ho0) hb); have n1_ := Aside0.mk (Kd.R_lower (Kd.R_new' ho0 (Kd.R_lt (qq9 HO189.out))) (keep_size (w := w) (g := g) (row := none) qq4)); have n2_ := Aside0.mk (IsS81.below qq7 hb); have n3_ := Aside0.mk (KeepBut.trans qq4 (KeepBut.of_below hb g none) (.inl rfl)); have n4_ := Aside0.mk (below_step (qq5 HB.out HI0.out) hb); clear HO189; clear HI0; clear HK; clear HB; have HO189 := n0_; have HO196 := n1_; have HI0 := n2_; have HK := n3_; have HB := n4_; clear n0_ n1_ n2_ n3_ n4_; (try clear hb); (try clear hb2); (try clear hk); (try clear hi); (try clear ho0)))
            go_ret
            exact ⟨_, qq13, Kd.Q_of_R (qq64 HO196.out), qq7, qq5 HB.out HI0.out, qq4⟩
          · rw [if_neg c28] at H
            have c28b0 : (t191 == 0) = false := beq_eq_false_iff_ne.mpr c28
            have c28b1 : (t191 != 0) = true := bne_iff_ne.mpr c28
            simp only [Option.some.injEq, Prod.mk.injEq] at H
            obtain ⟨rfl, rfl⟩ := H
            go_enter Try.func41, Try.ntmps41
            go_wp2_with (first | ((with_reducible refine gate_callee (f := 48) rfl ?_); refine goesL_ (some 10) rfl rfl Try.func48 (by kernel_rfl) rfl #[.pointer (some ⟨g, 0, none⟩), .int .i64 8] rfl qq3 ?_; (with_reducible refine (spec_l6Rd_pick.calls k g s0_0 s0_1 8 t162 t163 w0 _ ?side1 ?side2 A2.out).mono ?_); (case side1 => exact qq7); (case side2 => exact qq5 HB.out HI0.out); rintro e w35 ⟨rfl, hi, hb, hk⟩; refine ⟨_, rfl, ?_⟩; have n0_ := Aside0.mk (KeepBut.trans qq4 hk (.inl rfl)); have n1_ := Aside0.mk (hb); have n2_ := Aside0.mk (hi); clear HK; clear HB; clear HI0; have HK := n0_; have HB := n1_; have HI0 := n2_; clear n0_ n1_ n2_; (try clear hb); (try clear hb2); (try clear hk); (try clear hi)) | ((with_reducible refine gate_callee (f := 72) rfl ?_); refine goesL_ (some 34) rfl rfl Try.func72 (by kernel_rfl) rfl #[.pointer (some ⟨g, 0, none⟩)] rfl qq3 ?_; (with_reducible refine (spec_l92Star.calls k g s0_0 t163 t187 t190 w0 _ ?side1 ?side2 A26.out).mono ?_); (case side1 => exact qq7); (case side2 => exact qq5 HB.out HI0.out); rintro e w36 ⟨v188, rfl, ho0, hi, hb, hk⟩; refine ⟨_, rfl, ?_⟩; have n0_ := Aside0.mk (Kd.R_lower ho0 (keep_size (w := w) (g := g) (row := none) qq4)); have n1_ := Aside0.mk (KeepBut.trans qq4 hk (.inl rfl)); have n2_ := Aside0.mk (hb); have n3_ := Aside0.mk (hi); clear HK; clear HB; clear HI0; have HO189 := n0_; have HK := n1_; have HB := n2_; have HI0 := n3_; clear n0_ n1_ n2_ n3_; (try clear hb); (try clear hb2); (try clear hk); (try clear hi); (try clear ho0)) | ((with_reducible refine gate_callee (f := 48) rfl ?_); refine goesL_ (some 36) rfl rfl Try.func48 (by kernel_rfl) rfl #[.pointer (some ⟨g, 0, none⟩), .int .i64 5] rfl qq3 ?_; (with_reducible refine (spec_l6Rd_pick.calls k g s0_0 t190 5 t191 t192 w0 _ ?side1 ?side2 A27.out).mono ?_); (case side1 => exact qq7); (case side2 => exact qq5 HB.out HI0.out); rintro e w37 ⟨rfl, hi, hb, hk⟩; refine ⟨_, rfl, ?_⟩; have n0_ := Aside0.mk (Kd.R_mono (Kd.R_keep (IsS81.apart (show IsS81 w0 _ g s0_0 t190 from by repeat (first | (with_reducible first | exact HI0.out | apply IsS81.alloc | apply IsS81.drewN | apply IsS81.drew | apply IsS81.set_1) | exact HI0.out)) (qq9 HO189.out) (by decide)) hk (fun _ h => h.2)) (fun _ h => h.1)); have n1_ := Aside0.mk (KeepBut.trans qq4 hk (.inl rfl)); have n2_ := Aside0.mk (hb); have n3_ := Aside0.mk (hi); clear HO189; clear HK; clear HB; clear HI0; have HO189 := n0_; have HK := n1_; have HB := n2_; have HI0 := n3_; clear n0_ n1_ n2_ n3_; (try clear hb); (try clear hb2); (try clear hk); (try clear hi)))
            go_ret
            exact ⟨_, qq13, Kd.Q_of_R (qq9 HO189.out), qq7, qq5 HB.out HI0.out, qq4⟩

end Go.Proofs.Ytgdhgncdpmalcaa.Q
namespace Go.Proofs.Ytgdhgncdpmalcaa.Q
open Go.RowKit Go.Proofs.YtgdhgncdpmalcaaW.PrintWords Go.Proofs.YtgdhgncdpmalcaaW.PrintLast Go.Proofs.YtgdhgncdpmalcaaW.PrintMore
attribute [local go_sem] max2_int min2_int max_two min_two max_three min_three max_four min_four
set_option linter.unusedVariables false
set_option linter.unusedSimpArgs false

/-! ### spec_l6Open: function 42 -/
def spec_l6Open.f (l0 : List Int) : Option (List Int × Int) := if (l0.length : Int) > 2000 then (if 2000 ≤ (l0.length : Int) then (some (l0.take 2000, 0)) else (none)) else (some (l0, 0))
set_option maxHeartbeats 8000000 in
set_option maxRecDepth 100000 in
theorem spec_l6Open.calls (A0 : Option Addr) (c0 : Nat) (l0 : List Int) (r1 : List Int) (r2 : Int) (w0 w : World) (hB : Below w0.heap.size w0 w) (hr0 : Kd.C (Kd.int .u8) w0 A0 l0.length l0) (hc0 : l0.length ≤ c0) (h : spec_l6Open.f l0 = some (r1, r2)) :
    Calls Try.prog 42 #[.slice A0 l0.length c0] w fun e w' => ∃ g_ : Nat, e = .returned (.pointer (some ⟨g_, 0, none⟩)) ∧ IsS81 w0 w' g_ r1 r2 ∧ Below w0.heap.size w0 w' ∧ Below w.heap.size w w' := by
  have hu81 := Try.underlying81
  have HR0 := Aside0.mk hr0
  have HC0 := Aside0.mk hc0
  clear hr0 hc0
  have HBW := Aside0.mk (Below.refl w.heap.size w)
  have HW0 := Aside0.mk hB.size
  have HB := Aside0.mk hB
  clear hB
  have H : (if (l0.length : Int) > 2000 then (if 2000 ≤ (l0.length : Int) then (some (l0.take 2000, 0)) else (none)) else (some (l0, 0))) = some (r1, r2) := h
  clear h
  by_cases c2 : (l0.length : Int) > 2000
  · rw [if_pos c2] at H
    have c2b0 : decide (2000 < (l0.length : Int)) = true := decide_eq_true c2
    have c2b1 : decide (2000 < l0.length) = true := decide_eq_true (by omega)
    clear c2
    by_cases c3 : 2000 ≤ (l0.length : Int)
    · rw [if_pos c3] at H
      have c3b0 := eq_true c3
      have c3b1 : decide (2000 ≤ (l0.length : Int)) = true := decide_eq_true c3
      clear c3
      simp only [Option.some.injEq, Prod.mk.injEq] at H
      obtain ⟨rfl, rfl⟩ := H
      obtain ⟨i04, hi04, _, hsz4, _⟩ := info_parts info5
      obtain ⟨hcut4, hA4, hC4⟩ := print_take_of (P := Try.prog) (Value.int .u8) 0 22 5 .i64 Try.underlying22 hi04 hsz4 A0 c0 l0 2000 (by omega) (of_decide_eq_true qq10) HC0.out
      have HR197 := Aside0.mk (Kd.C_of_reads (h1 := fun _ => rfl) (hA4 _ (Kd.reads_of_C HR0.out)))
      have HC197 := Aside0.mk hC4
      clear hA4 hC4 hi04 hsz4
      go_enter Try.func42, Try.ntmps42
      go_wp2_with (first | ((with_reducible refine gate_dst (N := 10) rfl ?_); refine box_event ?hg (N := 10) ?hd (cs := #[.slice A0 (l0.take 2000).length c0, .int .i64 0]) (t := 81) ?hr ?_; (case hd => rfl); (case hg => rfl); (case hr => exact qq23); intro gb198 hg w5 hbox hb; have n0_ := Aside0.mk (below_step HBW.out hb); have n1_ := Aside0.mk (below_step qq1 hb); have n2_ := Aside0.mk (hbox); have n3_ := Aside0.mk ((qq41 : w.heap.size ≤ gb198)); have n4_ := Aside0.mk ((Nat.le_trans HW0.out (qq41 : w.heap.size ≤ gb198) : w0.heap.size ≤ gb198)); clear HBW; clear HB; have HBW := n0_; have HB := n1_; have BK198 := n2_; have GW198 := n3_; have GE198 := n4_; clear n0_ n1_ n2_ n3_ n4_; clear hb hbox hg))
      go_ret
      exact ⟨_, rfl, (show IsS81 w0 _ gb198 (l0.take 2000) 0 from ⟨_, _, qq11 BK198.out, GE198.out, HR197.out⟩), qq6 HB.out GE198.out, qq6 HBW.out GW198.out⟩
    · rw [if_neg c3] at H
      exact absurd H (by simp)
  · rw [if_neg c2] at H
    have c2b0 : decide (2000 < (l0.length : Int)) = false := decide_eq_false c2
    have c2b1 : decide (2000 < l0.length) = false := decide_eq_false (by omega)
    clear c2
    simp only [Option.some.injEq, Prod.mk.injEq] at H
    obtain ⟨rfl, rfl⟩ := H
    go_enter Try.func42, Try.ntmps42
    go_wp2_with (first | ((with_reducible refine gate_dst (N := 10) rfl ?_); refine box_event ?hg (N := 10) ?hd (cs := #[.slice A0 l0.length c0, .int .i64 0]) (t := 81) ?hr ?_; (case hd => rfl); (case hg => rfl); (case hr => exact qq23); intro gb199 hg w6 hbox hb; have n0_ := Aside0.mk (below_step HBW.out hb); have n1_ := Aside0.mk (below_step qq1 hb); have n2_ := Aside0.mk (hbox); have n3_ := Aside0.mk ((qq41 : w.heap.size ≤ gb199)); have n4_ := Aside0.mk ((Nat.le_trans HW0.out (qq41 : w.heap.size ≤ gb199) : w0.heap.size ≤ gb199)); clear HBW; clear HB; have HBW := n0_; have HB := n1_; have BK199 := n2_; have GW199 := n3_; have GE199 := n4_; clear n0_ n1_ n2_ n3_ n4_; clear hb hbox hg))
    go_ret
    exact ⟨_, rfl, (show IsS81 w0 _ gb199 l0 0 from ⟨_, _, qq11 BK199.out, GE199.out, HR0.out⟩), qq6 HB.out GE199.out, qq6 HBW.out GW199.out⟩

end Go.Proofs.Ytgdhgncdpmalcaa.Q
namespace Go.Proofs.Ytgdhgncdpmalcaa.Q
open Go.RowKit Go.Proofs.YtgdhgncdpmalcaaW.PrintWords Go.Proofs.YtgdhgncdpmalcaaW.PrintLast Go.Proofs.YtgdhgncdpmalcaaW.PrintMore
attribute [local go_sem] max2_int min2_int max_two min_two max_three min_three max_four min_four
set_option linter.unusedVariables false
set_option linter.unusedSimpArgs false

/-! ### spec_DrawPolyConvex: function 27 -/
def spec_DrawPolyConvex.f (k : Nat) (l0 : List Int) : Option ((List (S32))) := (spec_l6Open.f l0).bind fun bt484 => ((spec_l6Rd_pick.f k bt484.1 bt484.2 2).bind fun bt487 => (if bt487.1 = 0 then ((spec_l92Box.f k bt484.1 bt487.2).bind fun bt489 => (some bt489.1)) else ((spec_l92Poly.f k bt484.1 bt487.2).bind fun bt493 => (some bt493.1))))
set_option maxHeartbeats 8000000 in
set_option maxRecDepth 100000 in
theorem spec_DrawPolyConvex.calls (k : Nat) (A0 : Option Addr) (c0 : Nat) (l0 : List Int) (r : List (S32)) (w : World) (hr0 : Kd.C (Kd.int .u8) w A0 l0.length l0) (hc0 : l0.length ≤ c0) (h : spec_DrawPolyConvex.f k l0 = some r) :
    Calls Try.prog 27 #[.slice A0 l0.length c0] w fun e w' => ∃ v0_ : Value, e = .returned (v0_) ∧ Kd.Q k32 32 w' w.heap.size (fun _ => True) v0_ r ∧ Below w.heap.size w w' := by
  have HR0 := Aside0.mk hr0
  have HC0 := Aside0.mk hc0
  clear hr0 hc0
  have HB := Aside0.mk (Below.refl w.heap.size w)
  have H : ((spec_l6Open.f l0).bind fun bt484 => ((spec_l6Rd_pick.f k bt484.1 bt484.2 2).bind fun bt487 => (if bt487.1 = 0 then ((spec_l92Box.f k bt484.1 bt487.2).bind fun bt489 => (some bt489.1)) else ((spec_l92Poly.f k bt484.1 bt487.2).bind fun bt493 => (some bt493.1))))) = some r := h
  clear h
  replace H := Option.bind_eq_some_iff.mp H
  obtain ⟨⟨t484, t485⟩, A20, H⟩ := H
  replace H : ((spec_l6Rd_pick.f k t484 t485 2).bind fun bt487 => (if bt487.1 = 0 then ((spec_l92Box.f k t484 bt487.2).bind fun bt489 => (some bt489.1)) else ((spec_l92Poly.f k t484 bt487.2).bind fun bt493 => (some bt493.1)))) = some r := H
  have A2 := Aside0.mk A20
  clear A20
  replace H := Option.bind_eq_some_iff.mp H
  obtain ⟨⟨t487, t488⟩, A30, H⟩ := H
  replace H : (if t487 = 0 then ((spec_l92Box.f k t484 t488).bind fun bt489 => (some bt489.1)) else ((spec_l92Poly.f k t484 t488).bind fun bt493 => (some bt493.1))) = some r := H
  have A3 := Aside0.mk A30
  clear A30
  by_cases c4 : t487 = 0
  · rw [if_pos c4] at H
    have c4b0 : (t487 == 0) = true := beq_iff_eq.mpr c4
    have c4b1 : (t487 != 0) = false := bne_eq_false_iff_eq.mpr c4
    clear c4
    replace H := Option.bind_eq_some_iff.mp H
    obtain ⟨⟨t489, t492⟩, A50, H⟩ := H
    replace H : (some t489) = some r := H
    have A5 := Aside0.mk A50
    clear A50
    obtain rfl := Option.some.inj H
    go_enter Try.func27, Try.ntmps27
    go_wp2_with (first | ((with_reducible refine gate_callee (f := 42) rfl ?_); refine goesL_ (some 5) rfl rfl Try.func42 (by kernel_rfl) rfl #[.slice A0 l0.length c0] rfl qq3 ?_; (with_reducible refine (spec_l6Open.calls _ _ l0 t484 t485 w _ ?side1 ?side2 ?side3 A2.out).mono ?_); (case side1 => exact qq1); (case side2 => exact HR0.out); (case side3 => exact HC0.out); rintro e w6 ⟨g486, rfl, hi, hb, hb2⟩; refine ⟨_, rfl, ?_⟩; have n0_ := Aside0.mk (hb); have n1_ := Aside0.mk (hi); clear HB; have HB := n0_; have HI486 := n1_; clear n0_ n1_; (try clear hb); (try clear hb2); (try clear hk); (try clear hi)) | ((with_reducible refine gate_callee (f := 48) rfl ?_); refine goesL_ (some 7) rfl rfl Try.func48 (by kernel_rfl) rfl #[.pointer (some ⟨g486, 0, none⟩), .int .i64 2] rfl qq3 ?_; (with_reducible refine (spec_l6Rd_pick.calls k g486 t484 t485 2 t487 t488 w _ ?side1 ?side2 A3.out).mono ?_); (case side1 => exact qq45); (case side2 => exact qq5 HB.out HI486.out); rintro e w7 ⟨rfl, hi, hb, hk⟩; refine ⟨_, rfl, ?_⟩; have n0_ := Aside0.mk (hb); have n1_ := Aside0.mk (hi); clear HB; clear HI486; have HB := n0_; have HI486 := n1_; clear n0_ n1_; (try clear hb); (try clear hb2); (try clear hk); (try clear hi)) | ((with_reducible refine gate_callee (f := 59) rfl ?_); refine goesL_ (some 10) rfl rfl Try.func59 (by kernel_rfl) rfl #[.pointer (some ⟨g486, 0, none⟩)] rfl qq3 ?_; (with_reducible refine (spec_l92Box.calls k g486 t484 t488 t489 t492 w _ ?side1 ?side2 A5.out).mono ?_); (case side1 => exact qq45); (case side2 => exact qq5 HB.out HI486.out); rintro e w8 ⟨v490, rfl, ho0, hi, hb, hk⟩; refine ⟨_, rfl, ?_⟩; have n0_ := Aside0.mk (Kd.Q_lower ho0 (below_size (qq5 HB.out HI486.out))); have n1_ := Aside0.mk (hb); have n2_ := Aside0.mk (hi); clear HB; clear HI486; have HO491 := n0_; have HB := n1_; have HI486 := n2_; clear n0_ n1_ n2_; (try clear hb); (try clear hb2); (try clear hk); (try clear hi); (try clear ho0)))
    go_ret
    exact ⟨_, qq13, qq17 HO491.out, qq5 HB.out HI486.out⟩
  · rw [if_neg c4] at H
    have c4b0 : (t487 == 0) = false := beq_eq_false_iff_ne.mpr c4
    have c4b1 : (t487 != 0) = true := bne_iff_ne.mpr c4
    replace H := Option.bind_eq_some_iff.mp H
    obtain ⟨⟨t493, t496⟩, A90, H⟩ := H
    replace H : (some t493) = some r := H
    have A9 := Aside0.mk A90
    clear A90
    obtain rfl := Option.some.inj H
    go_enter Try.func27, Try.ntmps27
    go_wp2_with (first | ((with_reducible refine gate_callee (f := 42) rfl ?_); refine goesL_ (some 5) rfl rfl Try.func42 (by kernel_rfl) rfl #[.slice A0 l0.length c0] rfl qq3 ?_; (with_reducible refine (spec_l6Open.calls _ _ l0 t484 t485 w _ ?side1 ?side2 ?side3 A2.out).mono ?_); (case side1 => exact qq1); (case side2 => exact HR0.out); (case side3 => exact HC0.out); rintro e w10 ⟨g486, rfl, hi, hb, hb2⟩; refine ⟨_, rfl, ?_⟩; have n0_ := Aside0.mk (hb); have n1_ := Aside0.mk (hi); clear HB; have HB := n0_; have HI486 := n1_; clear n0_ n1_; (try clear hb); (try clear hb2); (try clear hk); (try clear hi)) | ((with_reducible refine gate_callee (f := 48) rfl ?_); refine goesL_ (some 7) rfl rfl Try.func48 (by kernel_rfl) rfl #[.pointer (some ⟨g486, 0, none⟩), .int .i64 2] rfl qq3 ?_; (with_reducible refine (spec_l6Rd_pick.calls k g486 t484 t485 2 t487 t488 w _ ?side1 ?side2 A3.out).mono ?_); (case side1 => exact qq45); (case side2 => exact qq5 HB.out HI486.out); rintro e w11 ⟨rfl, hi, hb, hk⟩; refine ⟨_, rfl, ?_⟩; have n0_ := Aside0.mk (hb); have n1_ := Aside0.mk (hi); clear HB; clear HI486; have HB := n0_; have HI486 := n1_; clear n0_ n1_; (try clear hb); (try clear hb2); (try clear hk); (try clear hi)) | ((with_reducible refine gate_callee (f := 41) rfl ?_); refine goesL_ (some 12) rfl rfl Try.func41 (by kernel_rfl) rfl #[.pointer (some ⟨g486, 0, none⟩)] rfl qq3 ?_; (with_reducible refine (spec_l92Poly.calls k g486 t484 t488 t493 t496 w _ ?side1 ?side2 A9.out).mono ?_); (case side1 => exact qq45); (case side2 => exact qq5 HB.out HI486.out); rintro e w12 ⟨v494, rfl, ho0, hi, hb, hk⟩; refine ⟨_, rfl, ?_⟩; have n0_ := Aside0.mk (Kd.Q_lower ho0 (below_size (qq5 HB.out HI486.out))); have n1_ := Aside0.mk (hb); have n2_ := Aside0.mk (hi); clear HB; clear HI486; have HO495 := n0_; have HB := n1_; have HI486 := n2_; clear n0_ n1_ n2_; (try clear hb); (try clear hb2); (try clear hk); (try clear hi); (try clear ho0)))
    go_ret
    exact ⟨_, qq13, qq17 HO495.out, qq5 HB.out HI486.out⟩

end Go.Proofs.Ytgdhgncdpmalcaa.Q
namespace Go.Proofs.Ytgdhgncdpmalcaa.Ring
open Go.RowKit Go.Shelf Go.Proofs.Ytgdhgncdpmalcaa.Q Go.Proofs.Ytgdhgncdpmalcaa.Drawn Go.Proofs.YtgdhgncdpmalcaaW.PrintWords Go.Proofs.YtgdhgncdpmalcaaW.PrintLast Go.Proofs.YtgdhgncdpmalcaaW.PrintMore
set_option linter.unusedVariables false
set_option linter.unusedSimpArgs false
attribute [local go_sem] Oper.semAt_some

def turnS (l : List Pt) (k : Nat) : Int := sgnP (at_ l k) (nxt l k) (nxt l ((k + 1) % l.length))
def turnB (l : List Pt) (k : Nat) : Bool := sidB (at_ l k) (nxt l k) (nxt l ((k + 1) % l.length))
def sgI (x : Int) : Int := Pure.sgn x
def bent (l : List Pt) (k : Nat) : Bool := turnS l k == wrap64 (-(sgI (areaS l l.length)))
def convR (l : List Pt) : Bool := (List.range l.length).all (fun k => !bent l k)
theorem convR_no {l : List Pt} {k : Nat} (hk : k < l.length) (h : bent l k = true) : convR l = false := by
  unfold convR
  cases hc : (List.range l.length).all (fun k => !bent l k)
  · rfl
  · have := List.all_eq_true.1 hc k (List.mem_range.2 hk)
    rw [h] at this; cases this
theorem convR_yes {l : List Pt} (h : ∀ k, k < l.length → bent l k = false) : convR l = true := by
  unfold convR
  exact List.all_eq_true.2 fun k hk => by rw [h k (List.mem_range.1 hk)]; rfl
theorem signI_f (x : Int) : impl_signInt.f x = some (sgI x) := by exact Pure.signInt_eq x
set_option maxRecDepth 100000 in
set_option maxHeartbeats 4000000 in
theorem polyConvex_no (A0 : Option Addr) (c0 : Nat) (l : List Pt) (w : World) (hr0 : Kd.C k32 w A0 l.length l) (hc0 : l.length ≤ c0) (h : okS l = false) :
    Calls Try.prog 28 #[.slice A0 l.length c0] w fun e w' => e = .returned (.bool false) ∧ Below w.heap.size w w' := by
  have HR0 := Aside0.mk hr0
  have HC0 := Aside0.mk hc0
  have HX := Aside0.mk h
  clear hr0 hc0 h
  go_enter Try.func28, Try.ntmps28
  go_wp2_with (go_at_call 49; refine (simple_isnt A0 c0 l _ ?s1 HC0.out HX.out).mono ?_; (case s1 => exact qq61); rintro e w1 ⟨rfl, hb⟩; have hz : w.heap.size < w1.heap.size := qq60; have hz1 : ¬ w1.heap.size = w.heap.size := (by omega); have hz2 : ¬ w.heap.size = w1.heap.size := (by omega); have HB := Aside0.mk (((Below.refl w.heap.size w).alloc (Nat.le_refl _) _).trans (hb.mono (by simp))); have hb' := Below.mono hb (B' := w.heap.size + 1) (by simp); have z0 := (at_new hb' 0).1; have z1 := (at_new hb' 0).2; simp [go_sem] at z0 z1; clear hb hb')
  refine bodyPost_ret (v := .bool false) (by simp [results, Try.results28, go_sem, z0, hz, hz1, hz2]) rfl ⟨rfl, ?_⟩
  exact (HB.out.setCell (p := ⟨w.heap.size, 0, none⟩) (Nat.le_refl _) _).alloc (by simp; omega) _

set_option maxRecDepth 100000 in
set_option maxHeartbeats 4000000 in
theorem polyConvex_yes (A0 : Option Addr) (c0 : Nat) (l : List Pt) (w : World) (hr0 : Kd.C k32 w A0 l.length l) (hc0 : l.length ≤ c0) (h : okS l = true) :
    Calls Try.prog 28 #[.slice A0 l.length c0] w fun e w' => e = .returned (.bool (convR l)) ∧ Below w.heap.size w w' := by
  have HR0 := Aside0.mk hr0
  have HC0 := Aside0.mk hc0
  have HX := Aside0.mk h
  clear hr0 hc0 h
  refine (callsIn_wide (n := 0)).1 (callsIn_of_wp_marks Try.func28 rfl trivial ?_ rfl)
  simp only [Try.ntmps28, List.size_toArray, List.length_cons, List.length_nil, Nat.reduceAdd, Nat.reduceSub, Array.replicate_succ, Array.replicate_zero, List.push_toArray, List.append_toArray, List.nil_append, List.cons_append]
  have hz0 : (w.alloc (.cells #[.bool false] 4)).heap.size = w.heap.size + 1 := by simp
  gi_wp2_with (first | ((first | refine ⟨trivial, rfl, ?_⟩ | refine ⟨rfl, ?_⟩ | skip); gi_at_call 49; refine (callsIn_wide.2 (simple_yes A0 c0 l _ (Kd.C_below HR0.out ((Below.refl _ _).alloc (Nat.le_refl _) _)) HC0.out HX.out)).mono ?_; rintro e w1 ⟨bs, rfl, hR, hlo0, hb⟩; have HR := Aside0.mk hR; have HB := Aside0.mk (((Below.refl w.heap.size w).alloc (Nat.le_refl _) (.cells #[.bool false] 4)).trans (hb.mono (by simp))); have HB1 := Aside0.mk (Below.mono hb (B' := w.heap.size + 1) (by simp)); have hz1 : w.heap.size < w1.heap.size := qq60; clear hb hR hlo0) | ((first | refine ⟨trivial, rfl, ?_⟩ | refine ⟨rfl, ?_⟩ | skip); gi_at_call 44; refine (callsIn_wide.2 (area_calls w1.heap.size bs l _ (HR.out.below ((Below.refl _ _).alloc (Nat.le_refl _) _)) (by simp))).mono ?_; rintro e w2 ⟨rfl, hb2⟩; have HB2 := Aside0.mk hb2; clear hb2) | ((first | refine ⟨trivial, rfl, ?_⟩ | refine ⟨rfl, ?_⟩ | skip); gi_at_call 60; refine (callsIn_wide.2 (impl_signInt.calls _ _ _ (signI_f _))).mono ?_; rintro e w3 ⟨rfl, hb3⟩; have HB3 := Aside0.mk (show Below w2.heap.size w2 w3 from by obtain ⟨nd, rfl⟩ := hb3; exact pw_below_drewN (Below.refl _ _) _); have hbA := Aside0.mk (show Below (w1.heap.size + 1) (w1.alloc (.cells #[.pointer (some ⟨bs 0, 0, none⟩), .int .i64 l.length] 54)) w3 from HB2.out.mono (by simp) |>.trans (HB3.out.mono (by have := HB2.out.size; simp at this; omega))); have hz3 : w1.heap.size < w3.heap.size := (by have := hbA.out.size; simp at this; omega); have hz4 : w.heap.size < w3.heap.size := (by omega); have hz5 : ¬ w1.heap.size = w3.heap.size := (by omega); have hz6 : ¬ w.heap.size = w3.heap.size := (by omega); have hz7 : ¬ w3.heap.size = w1.heap.size := (by omega); have hz8 : ¬ w3.heap.size = w.heap.size := (by omega); have q0 := (at_new hbA.out 0).1; have q1 := (at_new hbA.out 1).1; have r0 := (hbA.out.cell (p := ⟨w.heap.size, 0, none⟩) (by dsimp only; omega)).trans ((World.cell?_alloc_lt _ _ _ (by simpa using hz1)).trans (at_new HB1.out 0).1); have r1 := (hbA.out.frozen (p := ⟨w.heap.size, 0, none⟩) (by dsimp only; omega)).trans ((((Below.refl w1.heap.size w1).alloc (Nat.le_refl _) _).frozen (p := ⟨w.heap.size, 0, none⟩) (by dsimp only; omega)).trans (at_new HB1.out 0).2); simp [go_sem] at q0 q1 r0 r1; clear hb3))
  obtain ⟨W0, hW0⟩ : ∃ W0, w3.alloc (.cells #[.int .i64 (sgI (areaS l l.length))] 3) = W0 := ⟨_, rfl⟩
  have hs : W0.heap.size = w3.heap.size + 1 := by rw [← hW0]; simp
  have hc0 : W0.cell? ⟨w3.heap.size, 0, none⟩ = some (.int .i64 (sgI (areaS l l.length))) := by rw [← hW0]; simp [go_sem]
  have hr0 : W0.cell? ⟨w.heap.size, 0, none⟩ = some (.bool false) := by rw [← hW0]; exact (World.cell?_alloc_lt _ _ _ (by simpa using hz4)).trans r0
  have hf0 : W0.frozen? ⟨w.heap.size, 0, none⟩ = false := by rw [← hW0]; exact (((Below.refl w3.heap.size w3).alloc (Nat.le_refl _) _).frozen (p := ⟨w.heap.size, 0, none⟩) (by dsimp only; omega)).trans r1
  have hbA0 : Below w1.heap.size w1 W0 := by rw [← hW0]; exact ((((Below.refl w1.heap.size w1).alloc (Nat.le_refl _) _).trans (hbA.out.mono (by omega))).alloc (by omega) _)
  have hb0 : Below w.heap.size w W0 := HB.out.trans (hbA0.mono (by omega))
  have HR0 := Aside0.mk ((HR.out.below hbA0).mono (show w1.heap.size ≤ W0.heap.size by omega))
  rw [hW0]
  clear hW0 q0 q1 r0 r1 hbA hbA0 HB1 HB2 HB3
  refine range_ring W0.heap.size bs l HR0.out (Nat.le_refl _) rfl
    (fun j W => (∀ i, i < j → bent l i = false) ∧ Below W0.heap.size W0 W)
    (fun c W => c = .ret ∧ (W.cell? ⟨w.heap.size, 0, none⟩ = some (.bool false) ∧ Below w.heap.size w W) ∧ convR l = false)
    ?hI ?hIx ⟨fun i hi => by omega, Below.refl _ _⟩ ?a1 ?assign ?body ?done ?stop
  case hI => exact fun s A B row hs' hg hr => ⟨hs'.1, ownFrom_below (β := Unit) (n₀ := W0.heap.size) (w₀ := W0) (Nat.le_refl _) (Nat.le_refl _) () A B row hs'.2 hg hr⟩
  case hIx => exact fun c A B row hs' hg hr => ⟨hs'.1, ⟨cell_kept hs'.2.1.1 hg (fun r e => (hr r e).2), ownFrom_below (β := Unit) (n₀ := w.heap.size) (w₀ := w) (Nat.le_refl _) (by omega) () A B row hs'.2.1.2 hg hr⟩, hs'.2.2⟩
  case assign =>
    intro r k W K hK
    gi_wp2
    exact hK
  case stop =>
    rintro D c W hD ⟨rfl, ⟨hc, hb⟩, hsb⟩ hK
    have HSB := Aside0.mk hsb
    clear hsb
    have hcD : (W.putObj D (.deferred none)).cell? ⟨w.heap.size, 0, none⟩ = some (.bool false) := cell_kept hc (grownBy_putObj' _ D (.deferred none)) (fun r e => by cases e; exact ⟨_, hK, rfl⟩)
    gi_wp2
    refine ⟨by simp, .inl ⟨_, _, rfl, run_takeDeferred hK, ?_⟩⟩
    exact ⟨_, (by simp [results, Try.results28, go_sem, hcD]; rfl), by rw [HSB.out], hb.trans (belowK_b (w := W0) (by omega) _ _ _ _ hD hK rfl rfl)⟩
  case done =>
    rintro D W hD ⟨hp, hb⟩ hK
    have HSB := Aside0.mk (convR_yes hp)
    have hc := (hb.cell (p := ⟨w.heap.size, 0, none⟩) (by dsimp only; omega)).trans hr0
    have hf := (hb.frozen (p := ⟨w.heap.size, 0, none⟩) (by dsimp only; omega)).trans hf0
    have hK' := (KeepsOthers.setCell W ⟨w.heap.size, 0, none⟩ (.bool true)).same D _ hK rfl
    have hcD : ((W.setCell ⟨w.heap.size, 0, none⟩ (.bool true)).putObj D (.deferred none)).cell? ⟨w.heap.size, 0, none⟩ = some (.bool true) := cell_kept (World.cell?_setCell_same _ _ _ hc) (grownBy_putObj' _ D (.deferred none)) (fun r e => by cases e; exact ⟨_, hK', rfl⟩)
    have hbE := ((hb0.trans (hb.mono (by omega))).setCell (p := ⟨w.heap.size, 0, none⟩) (by dsimp only; omega) (.bool true)).trans (belowK_b (w := W0) (n₀ := w.heap.size) (by omega) _ _ _ (.deferred none) hD hK' rfl rfl)
    clear hp
    gi_wp2
    refine ⟨by simp, .inl ⟨_, _, rfl, run_takeDeferred hK', ?_⟩⟩
    exact ⟨_, (by simp [results, Try.results28, go_sem, hcD]; rfl), by rw [HSB.out], hbE⟩
  case body =>
    rintro r k W hk ⟨hpre, hb⟩ hbt
    have HF := wide_round Try.prog r
    have hsW := hb.size
    have hRW0 := (HR0.out.below hb).mono hsW
    have HPR := Aside0.mk hpre
    clear hpre
    have hRW := hRW0
    have hkp := hRW.pos
    have hrx := Aside0.mk (fun w' (h : Below W.heap.size W w') => (hRW.below h).x k hk)
    have hry := Aside0.mk (fun w' (h : Below W.heap.size W w') => (hRW.below h).y k hk)
    have hrn := Aside0.mk (fun w' (h : Below W.heap.size W w') => (hRW.below h).next k hk)
    have hnk : (k + 1) % l.length < l.length := Nat.mod_lt _ (by omega)
    have hnx := Aside0.mk (fun w' (h : Below W.heap.size W w') => (show w'.cell? ⟨bs ((k + 1) % l.length), 0, none⟩ = some (.int .i64 (nxt l k).f0) from (hRW.below h).x _ hnk))
    have hny := Aside0.mk (fun w' (h : Below W.heap.size W w') => (show w'.cell? ⟨bs ((k + 1) % l.length), 1, none⟩ = some (.int .i64 (nxt l k).f1) from (hRW.below h).y _ hnk))
    have hn2 : ((k + 1) % l.length + 1) % l.length < l.length := Nat.mod_lt _ (by omega)
    have hnn := Aside0.mk (fun w' (h : Below W.heap.size W w') => (hRW.below h).next _ hnk)
    have hmx := Aside0.mk (fun w' (h : Below W.heap.size W w') => (show w'.cell? ⟨bs (((k + 1) % l.length + 1) % l.length), 0, none⟩ = some (.int .i64 (nxt l ((k + 1) % l.length)).f0) from (hRW.below h).x _ hn2))
    have hmy := Aside0.mk (fun w' (h : Below W.heap.size W w') => (show w'.cell? ⟨bs (((k + 1) % l.length + 1) % l.length), 1, none⟩ = some (.int .i64 (nxt l ((k + 1) % l.length)).f1) from (hRW.below h).y _ hn2))
    clear hRW
    obtain ⟨i2, hi2⟩ : ∃ i2, ((k + 1) % l.length + 1) % l.length = i2 := ⟨_, rfl⟩
    rw [hi2] at hn2 hnn hmx hmy
    clear hi2
    have hc := (hb.cell (p := ⟨w3.heap.size, 0, none⟩) (by dsimp only; omega)).trans hc0
    have hr := (hb.cell (p := ⟨w.heap.size, 0, none⟩) (by dsimp only; omega)).trans hr0
    have hf := (hb.frozen (p := ⟨w.heap.size, 0, none⟩) (by dsimp only; omega)).trans hf0
    gi_wp2
    obtain ⟨VS, hVS⟩ : ∃ VS : List (Option Tmp × Value), [(some 23, .pointer (some ⟨bs k, 0, none⟩)), (some 24, .pointer (some ⟨bs k, 0, none⟩)), (some 25, .pointer (some ⟨bs k, 0, none⟩)), (some 26, .agg #[.int .i64 (at_ l k).f0, .int .i64 (at_ l k).f1]), (some 27, .pointer (some ⟨bs k, 0, none⟩)), (some 28, .pointer (some ⟨bs k, 0, none⟩)), (some 29, .pointer (some ⟨bs k, 2, none⟩)), (some 30, .pointer (some ⟨bs ((k + 1) % l.length), 0, none⟩)), (some 31, .pointer (some ⟨bs ((k + 1) % l.length), 0, none⟩)), (some 32, .pointer (some ⟨bs ((k + 1) % l.length), 0, none⟩)), (some 33, .agg #[.int .i64 (nxt l k).f0, .int .i64 (nxt l k).f1]), (some 34, .pointer (some ⟨bs k, 0, none⟩)), (some 35, .pointer (some ⟨bs k, 0, none⟩)), (some 36, .pointer (some ⟨bs k, 2, none⟩)), (some 37, .pointer (some ⟨bs ((k + 1) % l.length), 0, none⟩)), (some 38, .pointer (some ⟨bs ((k + 1) % l.length), 0, none⟩)), (some 39, .pointer (some ⟨bs ((k + 1) % l.length), 2, none⟩)), (some 40, .pointer (some ⟨bs i2, 0, none⟩)), (some 41, .pointer (some ⟨bs i2, 0, none⟩)), (some 42, .pointer (some ⟨bs i2, 0, none⟩)), (some 43, .agg #[.int .i64 (nxt l ((k + 1) % l.length)).f0, .int .i64 (nxt l ((k + 1) % l.length)).f1]), (some 44, .tuple #[.int .i64 (turnS l k), .bool (turnB l k)]), (some 22, .tuple #[.int .i64 (turnS l k), .bool (turnB l k)]), (some 45, .int .i64 (turnS l k)), (some 46, .bool (turnB l k)), (some 7, .int .i64 (turnS l k)), (some 8, .bool (turnB l k))] = VS := ⟨_, rfl⟩
    have HN : (VS.filterMap (·.1)).Nodup := by rw [← hVS]; exact (show List.Nodup [(23 : Tmp), (24 : Tmp), (25 : Tmp), (26 : Tmp), (27 : Tmp), (28 : Tmp), (29 : Tmp), (30 : Tmp), (31 : Tmp), (32 : Tmp), (33 : Tmp), (34 : Tmp), (35 : Tmp), (36 : Tmp), (37 : Tmp), (38 : Tmp), (39 : Tmp), (40 : Tmp), (41 : Tmp), (42 : Tmp), (43 : Tmp), (44 : Tmp), (22 : Tmp), (45 : Tmp), (46 : Tmp), (7 : Tmp), (8 : Tmp)] by decide)
    refine act_name fun A0 hA0 => ?_
    have E6 : ∀ L : List Bool, (fill VS L A0).tmps[6]?.getD undef = .pointer (some ⟨bs k, 0, none⟩) := fun L => fill_old _ _ _ (by rw [← hVS]; exact (show (6 : Tmp) ∉ [(23 : Tmp), (24 : Tmp), (25 : Tmp), (26 : Tmp), (27 : Tmp), (28 : Tmp), (29 : Tmp), (30 : Tmp), (31 : Tmp), (32 : Tmp), (33 : Tmp), (34 : Tmp), (35 : Tmp), (36 : Tmp), (37 : Tmp), (38 : Tmp), (39 : Tmp), (40 : Tmp), (41 : Tmp), (42 : Tmp), (43 : Tmp), (44 : Tmp), (22 : Tmp), (45 : Tmp), (46 : Tmp), (7 : Tmp), (8 : Tmp)] by decide)) (by rw [← hA0]; rfl)
    have hT_ : 46 < A0.tmps.size := by rw [← hA0]; simp
    refine drawn_same (by kernel_rfl) (early_spec (by kernel_rfl)) VS (by rw [← hVS]; rfl) HN (fun w' => Below W.heap.size W w') ((Below.refl _ _).drew) ?_ ?_
    · intro i o v L w' ho hv hpre hS K hK
      have hii : i = 0 ∨ i = 1 ∨ i = 2 ∨ i = 3 ∨ i = 4 ∨ i = 5 ∨ i = 6 ∨ i = 7 ∨ i = 8 ∨ i = 9 ∨ i = 10 ∨ i = 11 ∨ i = 12 ∨ i = 13 ∨ i = 14 ∨ i = 15 ∨ i = 16 ∨ i = 17 ∨ i = 18 ∨ i = 19 ∨ i = 20 ∨ i = 21 ∨ i = 22 ∨ i = 23 ∨ i = 24 ∨ i = 25 ∨ i = 26 := by have hq := (Array.getElem?_eq_some_iff.1 ho).1; simp at hq; omega
      rcases hii with rfl | rfl | rfl | rfl | rfl | rfl | rfl | rfl | rfl | rfl | rfl | rfl | rfl | rfl | rfl | rfl | rfl | rfl | rfl | rfl | rfl | rfl | rfl | rfl | rfl | rfl | rfl
      · obtain rfl := Option.some.inj ho
        obtain rfl := vs_at hVS hv rfl
        have e6 := E6 L
        refine st_val HF rfl (by simp) rfl (w' := w') ?_ (hK w' hS)
        generalize fill VS L A0 = A at e6 ⊢
        simp [execOp, go_sem, i64_w, e6]
      · obtain rfl := Option.some.inj ho
        obtain rfl := vs_at hVS hv rfl
        have e23 := fill_get HN hVS hT_ (t := 23) (j := 0) rfl rfl (hpre ⟨0, .data⟩ (by simp) rfl)
        refine st_val HF rfl (by simp) rfl (w' := w') ?_ (hK w' hS)
        generalize fill VS L A0 = A at e23 ⊢
        simp [execOp, go_sem, i64_w, e23]
      · obtain rfl := Option.some.inj ho
        obtain rfl := vs_at hVS hv rfl
        have e24 := fill_get HN hVS hT_ (t := 24) (j := 1) rfl rfl (hpre ⟨1, .data⟩ (by simp) rfl)
        refine st_val HF rfl (by simp) rfl (w' := w') ?_ (hK w' hS)
        generalize fill VS L A0 = A at e24 ⊢
        simp [execOp, go_sem, i64_w, e24]
      · obtain rfl := Option.some.inj ho
        obtain rfl := vs_at hVS hv rfl
        have e25 := fill_get HN hVS hT_ (t := 25) (j := 2) rfl rfl (hpre ⟨2, .data⟩ (by simp) rfl)
        have c1 := hrx.out w' hS
        have c2 := hry.out w' hS
        refine st_val HF rfl (by simp) rfl (w' := w') ?_ (hK w' hS)
        generalize fill VS L A0 = A at e25 ⊢
        simp [execOp, go_sem, i64_w, e25, c1, c2]
      · obtain rfl := Option.some.inj ho
        obtain rfl := vs_at hVS hv rfl
        have e6 := E6 L
        refine st_val HF rfl (by simp) rfl (w' := w') ?_ (hK w' hS)
        generalize fill VS L A0 = A at e6 ⊢
        simp [execOp, go_sem, i64_w, e6]
      · obtain rfl := Option.some.inj ho
        obtain rfl := vs_at hVS hv rfl
        have e27 := fill_get HN hVS hT_ (t := 27) (j := 4) rfl rfl (hpre ⟨4, .data⟩ (by simp) rfl)
        refine st_val HF rfl (by simp) rfl (w' := w') ?_ (hK w' hS)
        generalize fill VS L A0 = A at e27 ⊢
        simp [execOp, go_sem, i64_w, e27]
      · obtain rfl := Option.some.inj ho
        obtain rfl := vs_at hVS hv rfl
        have e28 := fill_get HN hVS hT_ (t := 28) (j := 5) rfl rfl (hpre ⟨5, .data⟩ (by simp) rfl)
        refine st_val HF rfl (by simp) rfl (w' := w') ?_ (hK w' hS)
        generalize fill VS L A0 = A at e28 ⊢
        simp [execOp, go_sem, i64_w, e28]
      · obtain rfl := Option.some.inj ho
        obtain rfl := vs_at hVS hv rfl
        have e29 := fill_get HN hVS hT_ (t := 29) (j := 6) rfl rfl (hpre ⟨6, .data⟩ (by simp) rfl)
        have c1 := hrn.out w' hS
        refine st_val HF rfl (by simp) rfl (w' := w') ?_ (hK w' hS)
        generalize fill VS L A0 = A at e29 ⊢
        simp [execOp, go_sem, i64_w, e29, c1]
      · obtain rfl := Option.some.inj ho
        obtain rfl := vs_at hVS hv rfl
        have e30 := fill_get HN hVS hT_ (t := 30) (j := 7) rfl rfl (hpre ⟨7, .data⟩ (by simp) rfl)
        refine st_val HF rfl (by simp) rfl (w' := w') ?_ (hK w' hS)
        generalize fill VS L A0 = A at e30 ⊢
        simp [execOp, go_sem, i64_w, e30]
      · obtain rfl := Option.some.inj ho
        obtain rfl := vs_at hVS hv rfl
        have e31 := fill_get HN hVS hT_ (t := 31) (j := 8) rfl rfl (hpre ⟨8, .data⟩ (by simp) rfl)
        refine st_val HF rfl (by simp) rfl (w' := w') ?_ (hK w' hS)
        generalize fill VS L A0 = A at e31 ⊢
        simp [execOp, go_sem, i64_w, e31]
      · obtain rfl := Option.some.inj ho
        obtain rfl := vs_at hVS hv rfl
        have e32 := fill_get HN hVS hT_ (t := 32) (j := 9) rfl rfl (hpre ⟨9, .data⟩ (by simp) rfl)
        have c1 := hnx.out w' hS
        have c2 := hny.out w' hS
        refine st_val HF rfl (by simp) rfl (w' := w') ?_ (hK w' hS)
        generalize fill VS L A0 = A at e32 ⊢
        simp [execOp, go_sem, i64_w, e32, c1, c2]
      · obtain rfl := Option.some.inj ho
        obtain rfl := vs_at hVS hv rfl
        have e6 := E6 L
        refine st_val HF rfl (by simp) rfl (w' := w') ?_ (hK w' hS)
        generalize fill VS L A0 = A at e6 ⊢
        simp [execOp, go_sem, i64_w, e6]
      · obtain rfl := Option.some.inj ho
        obtain rfl := vs_at hVS hv rfl
        have e34 := fill_get HN hVS hT_ (t := 34) (j := 11) rfl rfl (hpre ⟨11, .data⟩ (by simp) rfl)
        refine st_val HF rfl (by simp) rfl (w' := w') ?_ (hK w' hS)
        generalize fill VS L A0 = A at e34 ⊢
        simp [execOp, go_sem, i64_w, e34]
      · obtain rfl := Option.some.inj ho
        obtain rfl := vs_at hVS hv rfl
        have e35 := fill_get HN hVS hT_ (t := 35) (j := 12) rfl rfl (hpre ⟨12, .data⟩ (by simp) rfl)
        refine st_val HF rfl (by simp) rfl (w' := w') ?_ (hK w' hS)
        generalize fill VS L A0 = A at e35 ⊢
        simp [execOp, go_sem, i64_w, e35]
      · obtain rfl := Option.some.inj ho
        obtain rfl := vs_at hVS hv rfl
        have e36 := fill_get HN hVS hT_ (t := 36) (j := 13) rfl rfl (hpre ⟨13, .data⟩ (by simp) rfl)
        have c1 := hrn.out w' hS
        refine st_val HF rfl (by simp) rfl (w' := w') ?_ (hK w' hS)
        generalize fill VS L A0 = A at e36 ⊢
        simp [execOp, go_sem, i64_w, e36, c1]
      · obtain rfl := Option.some.inj ho
        obtain rfl := vs_at hVS hv rfl
        have e37 := fill_get HN hVS hT_ (t := 37) (j := 14) rfl rfl (hpre ⟨14, .data⟩ (by simp) rfl)
        refine st_val HF rfl (by simp) rfl (w' := w') ?_ (hK w' hS)
        generalize fill VS L A0 = A at e37 ⊢
        simp [execOp, go_sem, i64_w, e37]
      · obtain rfl := Option.some.inj ho
        obtain rfl := vs_at hVS hv rfl
        have e38 := fill_get HN hVS hT_ (t := 38) (j := 15) rfl rfl (hpre ⟨15, .data⟩ (by simp) rfl)
        refine st_val HF rfl (by simp) rfl (w' := w') ?_ (hK w' hS)
        generalize fill VS L A0 = A at e38 ⊢
        simp [execOp, go_sem, i64_w, e38]
      · obtain rfl := Option.some.inj ho
        obtain rfl := vs_at hVS hv rfl
        have e39 := fill_get HN hVS hT_ (t := 39) (j := 16) rfl rfl (hpre ⟨16, .data⟩ (by simp) rfl)
        have c1 := hnn.out w' hS
        refine st_val HF rfl (by simp) rfl (w' := w') ?_ (hK w' hS)
        generalize fill VS L A0 = A at e39 ⊢
        simp [execOp, go_sem, i64_w, e39, c1]
      · obtain rfl := Option.some.inj ho
        obtain rfl := vs_at hVS hv rfl
        have e40 := fill_get HN hVS hT_ (t := 40) (j := 17) rfl rfl (hpre ⟨17, .data⟩ (by simp) rfl)
        refine st_val HF rfl (by simp) rfl (w' := w') ?_ (hK w' hS)
        generalize fill VS L A0 = A at e40 ⊢
        simp [execOp, go_sem, i64_w, e40]
      · obtain rfl := Option.some.inj ho
        obtain rfl := vs_at hVS hv rfl
        have e41 := fill_get HN hVS hT_ (t := 41) (j := 18) rfl rfl (hpre ⟨18, .data⟩ (by simp) rfl)
        refine st_val HF rfl (by simp) rfl (w' := w') ?_ (hK w' hS)
        generalize fill VS L A0 = A at e41 ⊢
        simp [execOp, go_sem, i64_w, e41]
      · obtain rfl := Option.some.inj ho
        obtain rfl := vs_at hVS hv rfl
        have e42 := fill_get HN hVS hT_ (t := 42) (j := 19) rfl rfl (hpre ⟨19, .data⟩ (by simp) rfl)
        have c1 := hmx.out w' hS
        have c2 := hmy.out w' hS
        refine st_val HF rfl (by simp) rfl (w' := w') ?_ (hK w' hS)
        generalize fill VS L A0 = A at e42 ⊢
        simp [execOp, go_sem, i64_w, e42, c1, c2]
      · obtain rfl := Option.some.inj ho
        obtain rfl := vs_at hVS hv rfl
        have e26 := fill_get HN hVS hT_ (t := 26) (j := 3) rfl rfl (hpre ⟨3, .data⟩ (by simp) rfl)
        have e33 := fill_get HN hVS hT_ (t := 33) (j := 10) rfl rfl (hpre ⟨10, .data⟩ (by simp) rfl)
        have e43 := fill_get HN hVS hT_ (t := 43) (j := 20) rfl rfl (hpre ⟨20, .data⟩ (by simp) rfl)
        refine st_call HF rfl (by simp) rfl (w := w') (f := 62) (args := #[.agg #[.int .i64 (at_ l k).f0, .int .i64 (at_ l k).f1], .agg #[.int .i64 (nxt l k).f0, .int .i64 (nxt l k).f1], .agg #[.int .i64 (nxt l ((k + 1) % l.length)).f0, .int .i64 (nxt l ((k + 1) % l.length)).f1]]) (v := .tuple #[.int .i64 (turnS l k), .bool (turnB l k)]) ?_ ?_
        · generalize fill VS L A0 = A at e26 e33 e43 ⊢
          simp [execOp, resolve, go_sem, e26, e33, e43]
        · refine (impl_PointSide.calls 1 _ _ _ _ _ _ _ _ w' (sideI_f (at_ l k) (nxt l k) (nxt l ((k + 1) % l.length)))).mono ?_; rintro e w2 ⟨rfl, hb2⟩; exact ⟨rfl, hK w2 (hS.trans (hb2.mono hS.size))⟩
      · obtain rfl := Option.some.inj ho
        obtain rfl := vs_at hVS hv rfl
        have e44 := fill_get HN hVS hT_ (t := 44) (j := 21) rfl rfl (hpre ⟨21, .data⟩ (by simp) rfl)
        refine st_val HF rfl (by simp) rfl (w' := w') ?_ (hK w' hS)
        generalize fill VS L A0 = A at e44 ⊢
        simp [execOp, go_sem, i64_w, e44]
      · obtain rfl := Option.some.inj ho
        obtain rfl := vs_at hVS hv rfl
        have e22 := fill_get HN hVS hT_ (t := 22) (j := 22) rfl rfl (hpre ⟨22, .data⟩ (by simp) rfl)
        refine st_val HF rfl (by simp) rfl (w' := w') ?_ (hK w' hS)
        generalize fill VS L A0 = A at e22 ⊢
        simp [execOp, go_sem, i64_w, e22]
      · obtain rfl := Option.some.inj ho
        obtain rfl := vs_at hVS hv rfl
        have e22 := fill_get HN hVS hT_ (t := 22) (j := 22) rfl rfl (hpre ⟨22, .data⟩ (by simp) rfl)
        refine st_val HF rfl (by simp) rfl (w' := w') ?_ (hK w' hS)
        generalize fill VS L A0 = A at e22 ⊢
        simp [execOp, go_sem, i64_w, e22]
      · obtain rfl := Option.some.inj ho
        obtain rfl := vs_at hVS hv rfl
        have e45 := fill_get HN hVS hT_ (t := 45) (j := 23) rfl rfl (hpre ⟨23, .data⟩ (by simp) rfl)
        refine st_val HF rfl (by simp) rfl (w' := w') ?_ (hK w' hS)
        generalize fill VS L A0 = A at e45 ⊢
        simp [execOp, go_sem, i64_w, e45]
      · obtain rfl := Option.some.inj ho
        obtain rfl := vs_at hVS hv rfl
        have e46 := fill_get HN hVS hT_ (t := 46) (j := 24) rfl rfl (hpre ⟨24, .data⟩ (by simp) rfl)
        refine st_val HF rfl (by simp) rfl (w' := w') ?_ (hK w' hS)
        generalize fill VS L A0 = A at e46 ⊢
        simp [execOp, go_sem, i64_w, e46]
    · intro w' hS'
      rw [← hVS, ← hA0]
      simp only [List.size_toArray, List.length_cons, List.length_nil, Nat.reduceAdd, List.replicate, fill, if_true, Act.put, List.setIfInBounds_toArray, List.set_cons_succ, List.set_cons_zero]
      clear HN E6 hVS hA0 hT_
      have jc := (hS'.cell (p := ⟨w3.heap.size, 0, none⟩) (by dsimp only; omega)).trans hc
      have jr := (hS'.cell (p := ⟨w.heap.size, 0, none⟩) (by dsimp only; omega)).trans hr
      have jf := (hS'.frozen (p := ⟨w.heap.size, 0, none⟩) (by dsimp only; omega)).trans hf
      have HS := Aside0.mk hS'
      clear hS' hc hr hf
      cases hq : bent l k
      · have HQ := Aside0.mk hq
        have hqd : (turnS l k == wrap64 (-(sgI (areaS l l.length)))) = false := hq
        clear hq
        gi_wp2
        exact ⟨KeepsFrom.of_below HS.out, HS.out.mono hsW, fun i hi => by
          by_cases e : i = k
          · subst e; exact HQ.out
          · exact HPR.out i (by omega), hb.trans (HS.out.mono hsW)⟩
      · have HQ := Aside0.mk hq
        have hqd : (turnS l k == wrap64 (-(sgI (areaS l l.length)))) = true := hq
        clear hq
        gi_wp2
        exact ⟨(KeepsFrom.of_below HS.out).trans ((KeepsOthers.setCell _ _ _).from _), rfl, ⟨World.cell?_setCell_same _ _ _ jr, (hb0.trans ((hb.trans (HS.out.mono hsW)).mono (by omega))).setCell (p := ⟨w.heap.size, 0, none⟩) (Nat.le_refl _) _⟩, convR_no hk HQ.out⟩

end Go.Proofs.Ytgdhgncdpmalcaa.Ring
namespace Go.Proofs.Ytgdhgncdpmalcaa.Q
open Go.RowKit Go.Proofs.YtgdhgncdpmalcaaW.PrintWords Go.Proofs.YtgdhgncdpmalcaaW.PrintLast Go.Proofs.YtgdhgncdpmalcaaW.PrintMore
attribute [local go_sem] max2_int min2_int max_two min_two max_three min_three max_four min_four
set_option linter.unusedVariables false
set_option linter.unusedSimpArgs false

/-! ### impl_PolyConvex: function 28 -/
def impl_PolyConvex.f (l0 : List (S32)) : Option (Bool) := if Go.Proofs.Ytgdhgncdpmalcaa.Ring.okS l0 then some (Go.Proofs.Ytgdhgncdpmalcaa.Ring.convR l0) else some false
theorem impl_PolyConvex.calls (A0 : Option Addr) (c0 : Nat) (l0 : List (S32)) (r : Bool) (w : World) (hr0 : Kd.C k32 w A0 l0.length l0) (hc0 : l0.length ≤ c0) (h : impl_PolyConvex.f l0 = some r) :
    Calls Try.prog 28 #[.slice A0 l0.length c0] w fun e w' => e = .returned (.bool r) ∧ Below w.heap.size w w' := by
  unfold impl_PolyConvex.f at h
  by_cases c : Go.Proofs.Ytgdhgncdpmalcaa.Ring.okS l0 = true
  · rw [if_pos c] at h
    obtain rfl := Option.some.inj h
    exact Go.Proofs.Ytgdhgncdpmalcaa.Ring.polyConvex_yes A0 c0 l0 w hr0 hc0 c
  · rw [if_neg c] at h
    obtain rfl := Option.some.inj h
    exact Go.Proofs.Ytgdhgncdpmalcaa.Ring.polyConvex_no A0 c0 l0 w hr0 hc0 (Bool.eq_false_iff.2 c)

end Go.Proofs.Ytgdhgncdpmalcaa.Q
namespace Go.Proofs.Ytgdhgncdpmalcaa.Q
open Go.RowKit Go.Proofs.YtgdhgncdpmalcaaW.PrintWords Go.Proofs.YtgdhgncdpmalcaaW.PrintLast Go.Proofs.YtgdhgncdpmalcaaW.PrintMore
attribute [local go_sem] max2_int min2_int max_two min_two max_three min_three max_four min_four
set_option linter.unusedVariables false
set_option linter.unusedSimpArgs false

/-! ### spec_l31Area: function 46 -/
def spec_l31Area.l0 : Nat → List (S32) → Int → Int → Option (Int)
  | 0, _, _, _ => none
  | k + 1, x0, x3, x4 => if x4 < (x0.length : Int) then (if 0 ≤ x4 then (if (x0.length : Int) = 0 then (none) else (if 0 ≤ (Int.tmod (wrap64 (x4 + 1)) (x0.length : Int)) then (if (Int.tmod (wrap64 (x4 + 1)) (x0.length : Int)) < (x0.length : Int) then ((spec_l2Cross.f ((rd_T32 x0 x4).f0) ((rd_T32 x0 x4).f1) ((rd_T32 x0 (Int.tmod (wrap64 (x4 + 1)) (x0.length : Int))).f0) ((rd_T32 x0 (Int.tmod (wrap64 (x4 + 1)) (x0.length : Int))).f1)).bind fun t225 => (spec_l31Area.l0 k x0 (wrap64 (x3 + t225)) (wrap64 (x4 + 1)))) else (none)) else (none))) else (none)) else (some x3)
def spec_l31Area.f (k : Nat) (l0 : List (S32)) : Option (Int) := spec_l31Area.l0 k l0 0 0
def spec_l31Area.T5 : Bool × List (List Nat × List Nat) := (true, [([], []), ([], []), ([], []), ([1, 2], [1, 2]), ([3], [3]), ([], []), ([], []), ([6], [6]), ([], []), ([8], [8]), ([7, 9], [7, 9]), ([5, 10], [5, 10]), ([11], [11]), ([4, 12], [4, 12]), ([0, 13], [0, 13]), ([14, 13, 0, 1, 2, 3, 4, 5, 6, 7, 8, 9, 10, 11, 12, 13, 14], [0, 14])])
def spec_l31Area.B5 : List Nat := [0, 0, 0, 6, 14, 0, 0, 64, 0, 256, 960, 2016, 4064, 8190, 16383, 32767]
theorem spec_l31Area.tab5 : rtab .any (opsOf Try.f46 5) = spec_l31Area.T5 := by kernel_rfl
theorem spec_l31Area.bits5 : waitsOk spec_l31Area.T5.2 spec_l31Area.B5 = true := by kernel_rfl
set_option maxHeartbeats 8000000 in
set_option maxRecDepth 100000 in
theorem spec_l31Area.calls (k : Nat) (A0 : Option Addr) (c0 : Nat) (l0 : List (S32)) (r : Int) (w : World) (hr0 : Kd.C k32 w A0 l0.length l0) (hc0 : l0.length ≤ c0) (h : spec_l31Area.f k l0 = some r) :
    Calls Try.prog 46 #[.slice A0 l0.length c0] w fun e w' => e = .returned (.int .i64 r) ∧ Below w.heap.size w w' := by
  have hu32 := Try.underlying32
  have HR0 := Aside0.mk hr0
  have HC0 := Aside0.mk hc0
  clear hr0 hc0
  have HB := Aside0.mk (Below.refl w.heap.size w)
  have H : (spec_l31Area.l0 k l0 0 0) = some r := h
  clear h
  have H' := Aside0.mk H
  clear H
  go_enter Try.func46, Try.ntmps46
  go_wp2
  go_loopg [3, 4] k (fun kq v3 v4 w' => ∃ (x3_1 : Int) (x4_1 : Int), v3 = .int .i64 x3_1 ∧ v4 = .int .i64 x4_1 ∧ Aside0 (spec_l31Area.l0 kq l0 x3_1 x4_1 = some r) ∧ Aside0 (kq ≤ k) ∧ Aside0 (Below w.heap.size w w'))
  case atStart => exact ⟨(0), (0), qq24, qq24, H', ⟨Nat.le_refl _⟩, ⟨qq1⟩⟩
  case round =>
    clear H'
    obtain ⟨x3_1, x4_1, rfl, rfl, HA, HK1, HB⟩ := hrel
    cases gk with
    | zero => exact absurd HA.out (by simp [spec_l31Area.l0])
    | succ k1 =>
      have H := HA.out
      clear HA
      simp only [spec_l31Area.l0] at H
      by_cases c2 : x4_1 < (l0.length : Int)
      · rw [if_pos c2] at H
        have c2b0 : decide (x4_1 < (l0.length : Int)) = true := decide_eq_true c2
        clear c2
        by_cases c3 : 0 ≤ x4_1
        · rw [if_pos c3] at H
          have c3b0 : decide (0 ≤ x4_1) = true := decide_eq_true c3
          clear c3
          by_cases c4 : (l0.length : Int) = 0
          · rw [if_pos c4] at H
            exact absurd H (by simp)
          · rw [if_neg c4] at H
            have c4b0 : ((l0.length : Int) == 0) = false := beq_eq_false_iff_ne.mpr c4
            have c4b1 : ((l0.length : Int) != 0) = true := bne_iff_ne.mpr c4
            have c4b2 : ¬ (l0 = []) := fun h_ => c4 (by rw [h_]; rfl)
            obtain ⟨ji5, hji5⟩ : ∃ j_ : Int, (Int.tmod (wrap64 (x4_1 + 1)) (l0.length : Int)) = j_ := ⟨_, rfl⟩
            replace H : (if 0 ≤ (ji5) then (if (ji5) < (l0.length : Int) then ((spec_l2Cross.f ((rd_T32 l0 x4_1).f0) ((rd_T32 l0 x4_1).f1) ((rd_T32 l0 (ji5)).f0) ((rd_T32 l0 (ji5)).f1)).bind fun t225 => (spec_l31Area.l0 k1 l0 (wrap64 (x3_1 + t225)) (wrap64 (x4_1 + 1)))) else (none)) else (none)) = some r := by first | (rw [hji5] at H; exact H) | (simp only [hji5] at H ⊢; exact H)
            by_cases c6 : 0 ≤ (ji5)
            · rw [if_pos c6] at H
              have c6b0 : decide (0 ≤ (ji5)) = true := decide_eq_true c6
              clear c6
              by_cases c7 : (ji5) < (l0.length : Int)
              · rw [if_pos c7] at H
                have c7b0 : decide ((ji5) < (l0.length : Int)) = true := decide_eq_true c7
                clear c7
                replace H := Option.bind_eq_some_iff.mp H
                obtain ⟨t225, A80, H⟩ := H
                replace H : (spec_l31Area.l0 k1 l0 (wrap64 (x3_1 + t225)) (wrap64 (x4_1 + 1))) = some r := H
                have A8 := Aside0.mk A80
                clear A80
                have H' := Aside0.mk H
                clear H
                try go_wp2
                have n0_ := Aside0.mk (below_drew1 HB.out)
                clear HB
                have HB := n0_
                clear n0_
                have p223 : 0 ≤ (x4_1 : Int) := of_decide_eq_true qq10
                have q223 : x4_1 < (l0.length : Int) := of_decide_eq_true qq10
                obtain ⟨ad223, e223, hx223_0, hx223_1⟩ := at_T32 HR0.out x4_1 p223 q223
                have hw223_1 := hx223_1
                have hw223_0 := hx223_0
                cases e223
                replace hx223_0 := (HB.out.cell (World.block_lt_of_cell? w _ hx223_0)).trans hx223_0
                replace hx223_1 := (HB.out.cell (World.block_lt_of_cell? w _ hx223_1)).trans hx223_1
                replace p223 := eq_true p223
                replace q223 := eq_true q223
                have p224 : 0 ≤ ((ji5) : Int) := of_decide_eq_true qq10
                have q224 : (ji5) < (l0.length : Int) := of_decide_eq_true qq10
                obtain ⟨ad224, e224, hx224_0, hx224_1⟩ := at_T32 HR0.out (ji5) p224 q224
                have hw224_1 := hx224_1
                have hw224_0 := hx224_0
                obtain rfl : ad223 = ad224 := (by injection e224)
                replace hx224_0 := (HB.out.cell (World.block_lt_of_cell? w _ hx224_0)).trans hx224_0
                replace hx224_1 := (HB.out.cell (World.block_lt_of_cell? w _ hx224_1)).trans hx224_1
                replace p224 := eq_true p224
                replace q224 := eq_true q224
                refine start_ (n := 16) (S := fun w' => w'.cell? (ad223.add ((x4_1).toNat * 2)) = some (.int .i64 ((rd_T32 l0 x4_1).f0)) ∧ w'.cell? ⟨(ad223.add ((x4_1).toNat * 2)).block, (ad223.add ((x4_1).toNat * 2)).off + 1, none⟩ = some (.int .i64 ((rd_T32 l0 x4_1).f1)) ∧ w'.cell? (ad223.add (((ji5)).toNat * 2)) = some (.int .i64 ((rd_T32 l0 (ji5)).f0)) ∧ w'.cell? ⟨(ad223.add (((ji5)).toNat * 2)).block, (ad223.add (((ji5)).toNat * 2)).off + 1, none⟩ = some (.int .i64 ((rd_T32 l0 (ji5)).f1))) (ds := []) #[false, false, false, false, false, false, false, false, false, false, false, false, false, false, false, false] (by kernel_rfl) rfl rfl ⟨((HB.out.cell (World.block_lt_of_cell? w _ hw223_0)).trans hw223_0), ((HB.out.cell (World.block_lt_of_cell? w _ hw223_1)).trans hw223_1), ((HB.out.cell (World.block_lt_of_cell? w _ hw224_0)).trans hw224_0), ((HB.out.cell (World.block_lt_of_cell? w _ hw224_1)).trans hw224_1)⟩ (fun hHeld => ?_); refine with_tabW spec_l31Area.tab5 spec_l31Area.bits5 (fun HT_ HW_ => ?_)
                generalize wr.drew = w9 at HB hx223_0 hx223_1 hx224_0 hx224_1 hHeld ⊢
                refine pure_ (i := 0) (N := some 11) #[true, false, false, false, false, false, false, false, false, false, false, false, false, false, false, false] rfl rfl (any_of HT_.out (by kernel_rfl)) (fun _ _ _ h => h) (Or.inl ⟨by rfl, pA_⟩) pB_ ?_
                refine pure_ (i := 1) (N := some 12) #[true, true, false, false, false, false, false, false, false, false, false, false, false, false, false, false] rfl rfl (any_of HT_.out (by kernel_rfl)) (fun _ _ _ h => h) (Or.inl ⟨by rfl, pA_⟩) pB_ ?_
                refine pure_ (i := 2) (N := some 13) #[true, true, true, false, false, false, false, false, false, false, false, false, false, false, false, false] rfl rfl (any_of HT_.out (by kernel_rfl)) (fun _ _ _ h => h) (Or.inl ⟨by rfl, pA_⟩) pB_ ?_
                refine pure_ (i := 3) (N := some 14) #[true, true, true, true, false, false, false, false, false, false, false, false, false, false, false, false] rfl rfl (any_of HT_.out (by kernel_rfl)) (fun _ _ _ h => h) (Or.inl ⟨by rfl, pA_⟩) pB_ ?_
                refine pure_ (i := 5) (N := some 16) #[true, true, true, true, false, true, false, false, false, false, false, false, false, false, false, false] rfl rfl (any_of HT_.out (by kernel_rfl)) (fun _ _ _ h => h) (Or.inl ⟨by rfl, pA_⟩) pB_ ?_
                refine pure_ (i := 6) (N := some 17) #[true, true, true, true, false, true, true, false, false, false, false, false, false, false, false, false] rfl rfl (any_of HT_.out (by kernel_rfl)) (fun _ _ _ h => h) (Or.inl ⟨by rfl, pA_⟩) pB_ ?_
                refine pure_ (i := 7) (N := some 18) #[true, true, true, true, false, true, true, true, false, false, false, false, false, false, false, false] rfl rfl (any_of HT_.out (by kernel_rfl)) (fun _ _ _ h => h) (Or.inl ⟨by rfl, pA_⟩) pB_ ?_
                refine pure_ (i := 8) (N := some 19) #[true, true, true, true, false, true, true, true, true, false, false, false, false, false, false, false] rfl rfl (any_of HT_.out (by kernel_rfl)) (fun _ _ _ h => h) (Or.inl ⟨by rfl, pA_⟩) pB_ ?_
                refine pure_ (i := 9) (N := some 20) #[true, true, true, true, false, true, true, true, true, true, false, false, false, false, false, false] rfl rfl (any_of HT_.out (by kernel_rfl)) (fun _ _ _ h => h) (Or.inl ⟨by rfl, pA_⟩) pB_ ?_
                refine pure_ (i := 10) (N := some 21) #[true, true, true, true, false, true, true, true, true, true, true, false, false, false, false, false] rfl rfl (any_of HT_.out (by kernel_rfl)) (fun _ _ _ h => h) (Or.inl ⟨by rfl, pA_⟩) pB_ ?_
                refine pure_ (i := 11) (N := some 22) #[true, true, true, true, false, true, true, true, true, true, true, true, false, false, false, false] rfl rfl (any_of HT_.out (by kernel_rfl)) (fun _ _ _ h => h) (Or.inl ⟨by rfl, pA_⟩) pB_ ?_
                refine take_ (i := 4) (N := some 15) (v := ?_) (a' := ?_) #[true, true, true, true, true, true, true, true, true, true, true, true, false, false, false, false] rfl rfl (take_ofW HT_.out HW_.out (by kernel_rfl)) (fun _ _ _ h => h) (Or.inl ⟨by rfl, ?_⟩) hHeld ?_ ?_
                rotate_left
                · rintro w' ⟨s0, s1, s2, s3⟩
                  go_simp
                  with_reducible rfl
                rotate_left
                · simp only [Act.put, List.setIfInBounds_toArray, List.set_cons_zero, List.set_cons_succ, i64_w, i32_w]
                  rfl
                refine take_ (i := 12) (N := some 23) (v := ?_) (a' := ?_) #[true, true, true, true, true, true, true, true, true, true, true, true, true, false, false, false] rfl rfl (take_ofW HT_.out HW_.out (by kernel_rfl)) (fun _ _ _ h => h) (Or.inl ⟨by rfl, ?_⟩) hHeld ?_ ?_
                rotate_left
                · rintro w' ⟨s0, s1, s2, s3⟩
                  go_simp
                  with_reducible rfl
                rotate_left
                · simp only [Act.put, List.setIfInBounds_toArray, List.set_cons_zero, List.set_cons_succ, i64_w, i32_w]
                  rfl
                refine one_ (i := 13) (N := some 24) #[true, true, true, true, true, true, true, true, true, true, true, true, true, true, false, false] rfl rfl (one_of HT_.out (by kernel_rfl)) (by decide) (fun K hK => ?_)
                refine goes_ Try.func75 (by kernel_rfl) rfl #[.agg #[.int .i64 ((rd_T32 l0 x4_1).f0), .int .i64 ((rd_T32 l0 x4_1).f1)], .agg #[.int .i64 ((rd_T32 l0 (ji5)).f0), .int .i64 ((rd_T32 l0 (ji5)).f1)]] (by rfl) rfl rfl (by (try simp only [List.map_toArray, List.map_cons, List.map_nil]); first | done | (simp only [hji5]; rfl) | rfl | (simp only [List.length_drop, List.length_take]; rfl)) ?_
                with_reducible refine (spec_l2Cross.calls ((rd_T32 l0 x4_1).f0) ((rd_T32 l0 x4_1).f1) ((rd_T32 l0 (ji5)).f0) ((rd_T32 l0 (ji5)).f1) t225 _ A8.out).mono ?_
                rintro e w10 ⟨rfl, hb⟩
                refine ⟨_, rfl, ?_⟩
                have n0_ := Aside0.mk (below_step qq1 hb)
                clear HB
                have HB := n0_
                clear n0_
                (try clear hb)
                (try clear hb2)
                (try clear hk)
                (try clear hi)
                refine hK.out _ _ ⟨((HB.out.cell (World.block_lt_of_cell? w _ hw223_0)).trans hw223_0), ((HB.out.cell (World.block_lt_of_cell? w _ hw223_1)).trans hw223_1), ((HB.out.cell (World.block_lt_of_cell? w _ hw224_0)).trans hw224_0), ((HB.out.cell (World.block_lt_of_cell? w _ hw224_1)).trans hw224_1)⟩ (fun hHeld => ?_)
                clear hK K
                refine norm_ (a' := ?_) ?_ ?_
                rotate_left
                · show Act.put _ (some 24) _ = _
                  simp only [Act.put, List.setIfInBounds_toArray, List.set_cons_zero, List.set_cons_succ, i64_w, i32_w]
                  rfl
                refine pure_ (i := 14) (N := some 25) #[true, true, true, true, true, true, true, true, true, true, true, true, true, true, true, false] rfl rfl (any_of HT_.out (by kernel_rfl)) (fun _ _ _ h => h) (Or.inl ⟨by rfl, pA_⟩) pB_ ?_
                refine pure_ (i := 15) (N := some 3) #[true, true, true, true, true, true, true, true, true, true, true, true, true, true, true, true] rfl rfl (any_of HT_.out (by kernel_rfl)) (fun _ _ _ h => h) (Or.inl ⟨by rfl, pA_⟩) pB_ ?_
                refine done_ (done_of HT_.out (by kernel_rfl)) ?_
                try go_wp2
                go_roundg k1
                case measure => have := HK1.out; omega
                case rel => exact ⟨(wrap64 (x3_1 + t225)), (wrap64 (x4_1 + 1)), qq24, qq24, H', ⟨by have := HK1.out; omega⟩, ⟨qq1⟩⟩
              · rw [if_neg c7] at H
                exact absurd H (by simp)
            · rw [if_neg c6] at H
              exact absurd H (by simp)
        · rw [if_neg c3] at H
          exact absurd H (by simp)
      · rw [if_neg c2] at H
        have c2b0 : decide (x4_1 < (l0.length : Int)) = false := decide_eq_false c2
        clear c2
        obtain rfl := Option.some.inj H
        go_wp2
        go_ret
        exact ⟨qq13, qq1⟩

end Go.Proofs.Ytgdhgncdpmalcaa.Q
namespace Go.Proofs.Ytgdhgncdpmalcaa.Q
open Go.RowKit Go.Proofs.YtgdhgncdpmalcaaW.PrintWords Go.Proofs.YtgdhgncdpmalcaaW.PrintLast Go.Proofs.YtgdhgncdpmalcaaW.PrintMore
attribute [local go_sem] max2_int min2_int max_two min_two max_three min_three max_four min_four
set_option linter.unusedVariables false
set_option linter.unusedSimpArgs false

/-! ### spec_l31Side: function 64 -/
def spec_l31Side.f (a0_0 : Int) (a0_1 : Int) (a1_0 : Int) (a1_1 : Int) (a2_0 : Int) (a2_1 : Int) : Option (Int) := (spec_l2Step.f a0_0 a0_1 a1_0 a1_1).bind fun bt356 => ((spec_l2Step.f a0_0 a0_1 a2_0 a2_1).bind fun bt358 => ((spec_l2Cross.f bt356.1 bt356.2 bt358.1 bt358.2).bind fun t360 => ((spec_l1Sign.f t360).bind fun t361 => (some t361))))
def spec_l31Side.T1 : Bool × List (List Nat × List Nat) := (true, [([], []), ([], []), ([0, 1], [0, 1]), ([], []), ([], []), ([3, 4, 2], [3, 4]), ([2, 5, 5], [2, 5]), ([6, 6], [6]), ([7, 7, 0, 1, 2, 3, 4, 5, 6, 7], [7])])
def spec_l31Side.B1 : List Nat := [0, 0, 3, 0, 0, 31, 63, 127, 255]
theorem spec_l31Side.tab1 : rtab .any (opsOf Try.f64 1) = spec_l31Side.T1 := by kernel_rfl
theorem spec_l31Side.bits1 : waitsOk spec_l31Side.T1.2 spec_l31Side.B1 = true := by kernel_rfl
set_option maxHeartbeats 8000000 in
set_option maxRecDepth 100000 in
theorem spec_l31Side.calls (a0_0 : Int) (a0_1 : Int) (a1_0 : Int) (a1_1 : Int) (a2_0 : Int) (a2_1 : Int) (r : Int) (w : World) (h : spec_l31Side.f a0_0 a0_1 a1_0 a1_1 a2_0 a2_1 = some r) :
    Calls Try.prog 64 #[.agg #[.int .i64 a0_0, .int .i64 a0_1], .agg #[.int .i64 a1_0, .int .i64 a1_1], .agg #[.int .i64 a2_0, .int .i64 a2_1]] w fun e w' => e = .returned (.int .i64 r) ∧ Below w.heap.size w w' := by
  have hu32 := Try.underlying32
  have HB := Aside0.mk (Below.refl w.heap.size w)
  have H : ((spec_l2Step.f a0_0 a0_1 a1_0 a1_1).bind fun bt356 => ((spec_l2Step.f a0_0 a0_1 a2_0 a2_1).bind fun bt358 => ((spec_l2Cross.f bt356.1 bt356.2 bt358.1 bt358.2).bind fun t360 => ((spec_l1Sign.f t360).bind fun t361 => (some t361))))) = some r := h
  clear h
  replace H := Option.bind_eq_some_iff.mp H
  obtain ⟨⟨t356, t357⟩, A40, H⟩ := H
  replace H : ((spec_l2Step.f a0_0 a0_1 a2_0 a2_1).bind fun bt358 => ((spec_l2Cross.f t356 t357 bt358.1 bt358.2).bind fun t360 => ((spec_l1Sign.f t360).bind fun t361 => (some t361)))) = some r := H
  have A4 := Aside0.mk A40
  clear A40
  replace H := Option.bind_eq_some_iff.mp H
  obtain ⟨⟨t358, t359⟩, A50, H⟩ := H
  replace H : ((spec_l2Cross.f t356 t357 t358 t359).bind fun t360 => ((spec_l1Sign.f t360).bind fun t361 => (some t361))) = some r := H
  have A5 := Aside0.mk A50
  clear A50
  replace H := Option.bind_eq_some_iff.mp H
  obtain ⟨t360, A60, H⟩ := H
  replace H : ((spec_l1Sign.f t360).bind fun t361 => (some t361)) = some r := H
  have A6 := Aside0.mk A60
  clear A60
  replace H := Option.bind_eq_some_iff.mp H
  obtain ⟨t361, A70, H⟩ := H
  replace H : (some t361) = some r := H
  have A7 := Aside0.mk A70
  clear A70
  obtain rfl := Option.some.inj H
  go_enter Try.func64, Try.ntmps64
  try go_wp2_with (first | ((with_reducible refine gate_dst (N := 3) rfl ?_); refine box_event ?hg (N := 3) ?hd (cs := #[.int .i64 a0_0, .int .i64 a0_1]) (t := 32) ?hr ?_; (case hd => rfl); (case hg => rfl); (case hr => exact qq23); intro gb353 hg w8 hbox hb; have n0_ := Aside0.mk (below_step qq1 hb); have n1_ := Aside0.mk (hbox); have n2_ := Aside0.mk ((qq34 : w.heap.size ≤ gb353)); have n3_ := Aside0.mk ((qq34 : w.heap.size ≤ gb353)); clear HB; have HB := n0_; have BK353 := n1_; have GW353 := n2_; have GE353 := n3_; clear n0_ n1_ n2_ n3_; clear hb hbox hg) | ((with_reducible refine gate_dst (N := 4) rfl ?_); refine box_event ?hg (N := 4) ?hd (cs := #[.int .i64 a1_0, .int .i64 a1_1]) (t := 32) ?hr ?_; (case hd => rfl); (case hg => rfl); (case hr => exact qq23); intro gb354 hg w9 hbox hb; have n0_ := Aside0.mk (bbl_ BK353.out hb); have n1_ := Aside0.mk (below_step (qq6 HB.out GE353.out) hb); have n2_ := Aside0.mk (hbox); have n3_ := Aside0.mk ((qq36 HB.out GE353.out : w.heap.size ≤ gb354)); have n4_ := Aside0.mk ((qq36 HB.out GE353.out : w.heap.size ≤ gb354)); have n5_ := Aside0.mk ((qq27 BK353.out : gb353 ≠ gb354)); have n6_ := Aside0.mk ((qq28 BK353.out : gb354 ≠ gb353)); clear BK353; clear HB; have BK353 := n0_; have HB := n1_; have BK354 := n2_; have GW354 := n3_; have GE354 := n4_; have NB353_354 := n5_; have NB354_353 := n6_; clear n0_ n1_ n2_ n3_ n4_ n5_ n6_; clear hb hbox hg) | ((with_reducible refine gate_dst (N := 5) rfl ?_); refine box_event ?hg (N := 5) ?hd (cs := #[.int .i64 a2_0, .int .i64 a2_1]) (t := 32) ?hr ?_; (case hd => rfl); (case hg => rfl); (case hr => exact qq23); intro gb355 hg w10 hbox hb; have n0_ := Aside0.mk (bbl_ BK353.out hb); have n1_ := Aside0.mk (bbl_ BK354.out hb); have n2_ := Aside0.mk (below_step (qq12 HB.out GE353.out GE354.out) hb); have n3_ := Aside0.mk (hbox); have n4_ := Aside0.mk ((qq47 HB.out GE353.out GE354.out : w.heap.size ≤ gb355)); have n5_ := Aside0.mk ((qq47 HB.out GE353.out GE354.out : w.heap.size ≤ gb355)); have n6_ := Aside0.mk ((qq27 BK353.out : gb353 ≠ gb355)); have n7_ := Aside0.mk ((qq28 BK353.out : gb355 ≠ gb353)); have n8_ := Aside0.mk ((qq27 BK354.out : gb354 ≠ gb355)); have n9_ := Aside0.mk ((qq28 BK354.out : gb355 ≠ gb354)); clear BK353; clear BK354; clear HB; have BK353 := n0_; have BK354 := n1_; have HB := n2_; have BK355 := n3_; have GW355 := n4_; have GE355 := n5_; have NB353_355 := n6_; have NB355_353 := n7_; have NB354_355 := n8_; have NB355_354 := n9_; clear n0_ n1_ n2_ n3_ n4_ n5_ n6_ n7_ n8_ n9_; clear hb hbox hg))
  have n0_ := Aside0.mk (blk_drew BK353.out)
  have n1_ := Aside0.mk (blk_drew BK354.out)
  have n2_ := Aside0.mk (blk_drew BK355.out)
  have n3_ := Aside0.mk (below_drew1 HB.out)
  clear BK353
  clear BK354
  clear BK355
  clear HB
  have BK353 := n0_
  have BK354 := n1_
  have BK355 := n2_
  have HB := n3_
  clear n0_ n1_ n2_ n3_
  refine start_ (n := 9) (S := fun w' => w'.cell? ⟨gb353, 0, none⟩ = some (.int .i64 a0_0) ∧ w'.cell? ⟨gb353, 1, none⟩ = some (.int .i64 a0_1) ∧ w'.cell? ⟨gb354, 0, none⟩ = some (.int .i64 a1_0) ∧ w'.cell? ⟨gb354, 1, none⟩ = some (.int .i64 a1_1) ∧ w'.cell? ⟨gb355, 0, none⟩ = some (.int .i64 a2_0) ∧ w'.cell? ⟨gb355, 1, none⟩ = some (.int .i64 a2_1)) (ds := []) #[false, false, false, false, false, false, false, false, false] (by kernel_rfl) rfl rfl ⟨(blk_cell BK353.out 0).trans rfl, (blk_cell BK353.out 1).trans rfl, (blk_cell BK354.out 0).trans rfl, (blk_cell BK354.out 1).trans rfl, (blk_cell BK355.out 0).trans rfl, (blk_cell BK355.out 1).trans rfl⟩ (fun hHeld => ?_); refine with_tabW spec_l31Side.tab1 spec_l31Side.bits1 (fun HT_ HW_ => ?_)
  generalize w10.drew = w11 at BK353 BK354 BK355 HB hHeld ⊢
  refine take_ (i := 0) (N := some 7) (v := ?_) (a' := ?_) #[true, false, false, false, false, false, false, false, false] rfl rfl (take_ofW HT_.out HW_.out (by kernel_rfl)) (fun _ _ _ h => h) (Or.inl ⟨by rfl, ?_⟩) hHeld ?_ ?_
  rotate_left
  · rintro w' ⟨s0, s1, s2, s3, s4, s5⟩
    go_simp
    with_reducible rfl
  rotate_left
  · simp only [Act.put, List.setIfInBounds_toArray, List.set_cons_zero, List.set_cons_succ, i64_w, i32_w]
    rfl
  refine take_ (i := 1) (N := some 8) (v := ?_) (a' := ?_) #[true, true, false, false, false, false, false, false, false] rfl rfl (take_ofW HT_.out HW_.out (by kernel_rfl)) (fun _ _ _ h => h) (Or.inl ⟨by rfl, ?_⟩) hHeld ?_ ?_
  rotate_left
  · rintro w' ⟨s0, s1, s2, s3, s4, s5⟩
    go_simp
    with_reducible rfl
  rotate_left
  · simp only [Act.put, List.setIfInBounds_toArray, List.set_cons_zero, List.set_cons_succ, i64_w, i32_w]
    rfl
  refine take_ (i := 3) (N := some 10) (v := ?_) (a' := ?_) #[true, true, false, true, false, false, false, false, false] rfl rfl (take_ofW HT_.out HW_.out (by kernel_rfl)) (fun _ _ _ h => h) (Or.inl ⟨by rfl, ?_⟩) hHeld ?_ ?_
  rotate_left
  · rintro w' ⟨s0, s1, s2, s3, s4, s5⟩
    go_simp
    with_reducible rfl
  rotate_left
  · simp only [Act.put, List.setIfInBounds_toArray, List.set_cons_zero, List.set_cons_succ, i64_w, i32_w]
    rfl
  refine take_ (i := 4) (N := some 11) (v := ?_) (a' := ?_) #[true, true, false, true, true, false, false, false, false] rfl rfl (take_ofW HT_.out HW_.out (by kernel_rfl)) (fun _ _ _ h => h) (Or.inl ⟨by rfl, ?_⟩) hHeld ?_ ?_
  rotate_left
  · rintro w' ⟨s0, s1, s2, s3, s4, s5⟩
    go_simp
    with_reducible rfl
  rotate_left
  · simp only [Act.put, List.setIfInBounds_toArray, List.set_cons_zero, List.set_cons_succ, i64_w, i32_w]
    rfl
  refine one_ (i := 2) (N := some 9) #[true, true, true, true, true, false, false, false, false] rfl rfl (one_of HT_.out (by kernel_rfl)) (by decide) (fun K hK => ?_)
  refine goes_ Try.func77 (by kernel_rfl) rfl #[.agg #[.int .i64 a0_0, .int .i64 a0_1], .agg #[.int .i64 a1_0, .int .i64 a1_1]] (by rfl) rfl rfl qq3 ?_
  with_reducible refine (spec_l2Step.calls a0_0 a0_1 a1_0 a1_1 t356 t357 _ A4.out).mono ?_
  rintro e w12 ⟨rfl, hb⟩
  refine ⟨_, rfl, ?_⟩
  have n0_ := Aside0.mk (bbl_ BK353.out hb)
  have n1_ := Aside0.mk (bbl_ BK354.out hb)
  have n2_ := Aside0.mk (bbl_ BK355.out hb)
  have n3_ := Aside0.mk (below_step (qq8 HB.out GE353.out GE354.out GE355.out) hb)
  clear BK353
  clear BK354
  clear BK355
  clear HB
  have BK353 := n0_
  have BK354 := n1_
  have BK355 := n2_
  have HB := n3_
  clear n0_ n1_ n2_ n3_
  (try clear hb)
  (try clear hb2)
  (try clear hk)
  (try clear hi)
  refine hK.out _ _ ⟨(blk_cell BK353.out 0).trans rfl, (blk_cell BK353.out 1).trans rfl, (blk_cell BK354.out 0).trans rfl, (blk_cell BK354.out 1).trans rfl, (blk_cell BK355.out 0).trans rfl, (blk_cell BK355.out 1).trans rfl⟩ (fun hHeld => ?_)
  clear hK K
  refine norm_ (a' := ?_) ?_ ?_
  rotate_left
  · show Act.put _ (some 9) _ = _
    simp only [Act.put, List.setIfInBounds_toArray, List.set_cons_zero, List.set_cons_succ, i64_w, i32_w]
    rfl
  refine one_ (i := 5) (N := some 12) #[true, true, true, true, true, true, false, false, false] rfl rfl (one_of HT_.out (by kernel_rfl)) (by decide) (fun K hK => ?_)
  refine goes_ Try.func77 (by kernel_rfl) rfl #[.agg #[.int .i64 a0_0, .int .i64 a0_1], .agg #[.int .i64 a2_0, .int .i64 a2_1]] (by rfl) rfl rfl qq3 ?_
  with_reducible refine (spec_l2Step.calls a0_0 a0_1 a2_0 a2_1 t358 t359 _ A5.out).mono ?_
  rintro e w13 ⟨rfl, hb⟩
  refine ⟨_, rfl, ?_⟩
  have n0_ := Aside0.mk (bbl_ BK353.out hb)
  have n1_ := Aside0.mk (bbl_ BK354.out hb)
  have n2_ := Aside0.mk (bbl_ BK355.out hb)
  have n3_ := Aside0.mk (below_step (qq8 HB.out GE353.out GE354.out GE355.out) hb)
  clear BK353
  clear BK354
  clear BK355
  clear HB
  have BK353 := n0_
  have BK354 := n1_
  have BK355 := n2_
  have HB := n3_
  clear n0_ n1_ n2_ n3_
  (try clear hb)
  (try clear hb2)
  (try clear hk)
  (try clear hi)
  refine hK.out _ _ ⟨(blk_cell BK353.out 0).trans rfl, (blk_cell BK353.out 1).trans rfl, (blk_cell BK354.out 0).trans rfl, (blk_cell BK354.out 1).trans rfl, (blk_cell BK355.out 0).trans rfl, (blk_cell BK355.out 1).trans rfl⟩ (fun hHeld => ?_)
  clear hK K
  refine norm_ (a' := ?_) ?_ ?_
  rotate_left
  · show Act.put _ (some 12) _ = _
    simp only [Act.put, List.setIfInBounds_toArray, List.set_cons_zero, List.set_cons_succ, i64_w, i32_w]
    rfl
  refine one_ (i := 6) (N := some 13) #[true, true, true, true, true, true, true, false, false] rfl rfl (one_of HT_.out (by kernel_rfl)) (by decide) (fun K hK => ?_)
  refine goes_ Try.func75 (by kernel_rfl) rfl #[.agg #[.int .i64 t356, .int .i64 t357], .agg #[.int .i64 t358, .int .i64 t359]] (by rfl) rfl rfl qq3 ?_
  with_reducible refine (spec_l2Cross.calls t356 t357 t358 t359 t360 _ A6.out).mono ?_
  rintro e w14 ⟨rfl, hb⟩
  refine ⟨_, rfl, ?_⟩
  have n0_ := Aside0.mk (bbl_ BK353.out hb)
  have n1_ := Aside0.mk (bbl_ BK354.out hb)
  have n2_ := Aside0.mk (bbl_ BK355.out hb)
  have n3_ := Aside0.mk (below_step (qq8 HB.out GE353.out GE354.out GE355.out) hb)
  clear BK353
  clear BK354
  clear BK355
  clear HB
  have BK353 := n0_
  have BK354 := n1_
  have BK355 := n2_
  have HB := n3_
  clear n0_ n1_ n2_ n3_
  (try clear hb)
  (try clear hb2)
  (try clear hk)
  (try clear hi)
  refine hK.out _ _ ⟨(blk_cell BK353.out 0).trans rfl, (blk_cell BK353.out 1).trans rfl, (blk_cell BK354.out 0).trans rfl, (blk_cell BK354.out 1).trans rfl, (blk_cell BK355.out 0).trans rfl, (blk_cell BK355.out 1).trans rfl⟩ (fun hHeld => ?_)
  clear hK K
  refine norm_ (a' := ?_) ?_ ?_
  rotate_left
  · show Act.put _ (some 13) _ = _
    simp only [Act.put, List.setIfInBounds_toArray, List.set_cons_zero, List.set_cons_succ, i64_w, i32_w]
    rfl
  refine one_ (i := 7) (N := some 14) #[true, true, true, true, true, true, true, true, false] rfl rfl (one_of HT_.out (by kernel_rfl)) (by decide) (fun K hK => ?_)
  refine goes_ Try.func63 (by kernel_rfl) rfl #[.int .i64 t360] (by rfl) rfl rfl qq3 ?_
  with_reducible refine (spec_l1Sign.calls t360 t361 _ A7.out).mono ?_
  rintro e w15 ⟨rfl, hb⟩
  refine ⟨_, rfl, ?_⟩
  have n0_ := Aside0.mk (bbl_ BK353.out hb)
  have n1_ := Aside0.mk (bbl_ BK354.out hb)
  have n2_ := Aside0.mk (bbl_ BK355.out hb)
  have n3_ := Aside0.mk (below_step (qq8 HB.out GE353.out GE354.out GE355.out) hb)
  clear BK353
  clear BK354
  clear BK355
  clear HB
  have BK353 := n0_
  have BK354 := n1_
  have BK355 := n2_
  have HB := n3_
  clear n0_ n1_ n2_ n3_
  (try clear hb)
  (try clear hb2)
  (try clear hk)
  (try clear hi)
  refine hK.out _ _ ⟨(blk_cell BK353.out 0).trans rfl, (blk_cell BK353.out 1).trans rfl, (blk_cell BK354.out 0).trans rfl, (blk_cell BK354.out 1).trans rfl, (blk_cell BK355.out 0).trans rfl, (blk_cell BK355.out 1).trans rfl⟩ (fun hHeld => ?_)
  clear hK K
  refine norm_ (a' := ?_) ?_ ?_
  rotate_left
  · show Act.put _ (some 14) _ = _
    simp only [Act.put, List.setIfInBounds_toArray, List.set_cons_zero, List.set_cons_succ, i64_w, i32_w]
    rfl
  refine pure_ (i := 8) (N := some 6) #[true, true, true, true, true, true, true, true, true] rfl rfl (any_of HT_.out (by kernel_rfl)) (fun _ _ _ h => h) (Or.inl ⟨by rfl, pA_⟩) pB_ ?_
  refine done_ (done_of HT_.out (by kernel_rfl)) ?_
  try go_wp2
  go_ret
  exact ⟨qq13, qq8 HB.out GE353.out GE354.out GE355.out⟩

end Go.Proofs.Ytgdhgncdpmalcaa.Q
namespace Go.Proofs.Ytgdhgncdpmalcaa.Q
open Go.RowKit Go.Proofs.YtgdhgncdpmalcaaW.PrintWords Go.Proofs.YtgdhgncdpmalcaaW.PrintLast Go.Proofs.YtgdhgncdpmalcaaW.PrintMore
attribute [local go_sem] max2_int min2_int max_two min_two max_three min_three max_four min_four
set_option linter.unusedVariables false
set_option linter.unusedSimpArgs false

/-! ### spec_l31Meet: function 51 -/
def spec_l31Meet.j0 : Nat → Bool → Int → Int → Int → Int → Int → Int → Int → Int → Option (Bool)
  | 0, _, _, _, _, _, _, _, _, _ => none
  | k + 1, x30, x379000, x379001, x380000, x380001, x381000, x381001, x382000, x382001 => if x30 = true then (some true) else ((spec_l31Side.f x379000 x379001 x380000 x380001 x381000 x381001).bind fun t386 => ((spec_l31Side.f x379000 x379001 x380000 x380001 x382000 x382001).bind fun t387 => (if (wrap64 (t386 * t387)) < 0 then ((spec_l31Side.f x381000 x381001 x382000 x382001 x379000 x379001).bind fun t388 => ((spec_l31Side.f x381000 x381001 x382000 x382001 x380000 x380001).bind fun t389 => (some (decide ((wrap64 (t388 * t389)) < 0))))) else (some false))))
def spec_l31Meet.f (k : Nat) (a0_0 : Int) (a0_1 : Int) (a1_0 : Int) (a1_1 : Int) (a2_0 : Int) (a2_1 : Int) (a3_0 : Int) (a3_1 : Int) : Option (Bool) := (spec_l2On.f a0_0 a0_1 a1_0 a1_1 a2_0 a2_1).bind fun t382 => (if t382 = true then (spec_l31Meet.j0 k true a0_0 a0_1 a1_0 a1_1 a2_0 a2_1 a3_0 a3_1) else ((spec_l2On.f a0_0 a0_1 a1_0 a1_1 a3_0 a3_1).bind fun t383 => (if t383 = true then (spec_l31Meet.j0 k true a0_0 a0_1 a1_0 a1_1 a2_0 a2_1 a3_0 a3_1) else ((spec_l2On.f a2_0 a2_1 a3_0 a3_1 a0_0 a0_1).bind fun t384 => (if t384 = true then (spec_l31Meet.j0 k true a0_0 a0_1 a1_0 a1_1 a2_0 a2_1 a3_0 a3_1) else ((spec_l2On.f a2_0 a2_1 a3_0 a3_1 a1_0 a1_1).bind fun t385 => (spec_l31Meet.j0 k t385 a0_0 a0_1 a1_0 a1_1 a2_0 a2_1 a3_0 a3_1)))))))
open Go.Proofs.Ytgdhgncdpmalcaa.Drawn in
set_option maxHeartbeats 8000000 in
set_option maxRecDepth 100000 in
theorem spec_l31Meet.calls (k : Nat) (a0_0 : Int) (a0_1 : Int) (a1_0 : Int) (a1_1 : Int) (a2_0 : Int) (a2_1 : Int) (a3_0 : Int) (a3_1 : Int) (r : Bool) (w : World) (h : spec_l31Meet.f k a0_0 a0_1 a1_0 a1_1 a2_0 a2_1 a3_0 a3_1 = some r) :
    Calls Try.prog 51 #[.agg #[.int .i64 a0_0, .int .i64 a0_1], .agg #[.int .i64 a1_0, .int .i64 a1_1], .agg #[.int .i64 a2_0, .int .i64 a2_1], .agg #[.int .i64 a3_0, .int .i64 a3_1]] w fun e w' => e = .returned (.bool r) ∧ Below w.heap.size w w' := by
  have HX := Aside0.mk (Bx.start w 32 a0_0 a0_1 a1_0 a1_1 a2_0 a2_1 a3_0 a3_1)
  unfold spec_l31Meet.f at h
  obtain ⟨b1, F1, h⟩ := Option.bind_eq_some_iff.1 h
  replace F1 := Aside0.mk F1
  have fin1 : ∀ {k : Nat}, spec_l31Meet.j0 k true a0_0 a0_1 a1_0 a1_1 a2_0 a2_1 a3_0 a3_1 = some r → r = true := by
    intro k h
    cases k with
    | zero => simp [spec_l31Meet.j0] at h
    | succ k => rw [spec_l31Meet.j0, if_pos rfl] at h; exact (Option.some.inj h).symm
  cases b1
  case true =>
    obtain rfl := fin1 (by simpa using h)
    (try clear h); clear fin1; go_enter Try.func51, Try.ntmps51; go_wp2_with (go_at_call 50; (first | (with_reducible refine (spec_l2On.calls _ _ _ _ _ _ _ _ F1.out).mono ?_) | (with_reducible refine (spec_l2On.calls _ _ _ _ _ _ _ _ F2.out).mono ?_) | (with_reducible refine (spec_l2On.calls _ _ _ _ _ _ _ _ F3.out).mono ?_) | (with_reducible refine (spec_l2On.calls _ _ _ _ _ _ _ _ F4.out).mono ?_)); rintro e wz ⟨rfl, hb⟩; have HX2 := Aside0.mk (HX.out.step hb); clear hb HX; have HX := HX2; clear HX2; have p0 := HX.out.p0; have p1 := HX.out.p1; have q0 := HX.out.q0; have q1 := HX.out.q1; have r0 := HX.out.r0; have r1 := HX.out.r1; have s0 := HX.out.s0; have s1 := HX.out.s1); go_ret; exact ⟨rfl, HX.out.be⟩
  case false =>
    rw [if_neg (by decide)] at h
    obtain ⟨b2, F2, h⟩ := Option.bind_eq_some_iff.1 h
    replace F2 := Aside0.mk F2
    cases b2
    case true =>
      obtain rfl := fin1 (by simpa using h)
      (try clear h); clear fin1; go_enter Try.func51, Try.ntmps51; go_wp2_with (go_at_call 50; (first | (with_reducible refine (spec_l2On.calls _ _ _ _ _ _ _ _ F1.out).mono ?_) | (with_reducible refine (spec_l2On.calls _ _ _ _ _ _ _ _ F2.out).mono ?_) | (with_reducible refine (spec_l2On.calls _ _ _ _ _ _ _ _ F3.out).mono ?_) | (with_reducible refine (spec_l2On.calls _ _ _ _ _ _ _ _ F4.out).mono ?_)); rintro e wz ⟨rfl, hb⟩; have HX2 := Aside0.mk (HX.out.step hb); clear hb HX; have HX := HX2; clear HX2; have p0 := HX.out.p0; have p1 := HX.out.p1; have q0 := HX.out.q0; have q1 := HX.out.q1; have r0 := HX.out.r0; have r1 := HX.out.r1; have s0 := HX.out.s0; have s1 := HX.out.s1); go_ret; exact ⟨rfl, HX.out.be⟩
    case false =>
      rw [if_neg (by decide)] at h
      obtain ⟨b3, F3, h⟩ := Option.bind_eq_some_iff.1 h
      replace F3 := Aside0.mk F3
      cases b3
      case true =>
        obtain rfl := fin1 (by simpa using h)
        (try clear h); clear fin1; go_enter Try.func51, Try.ntmps51; go_wp2_with (go_at_call 50; (first | (with_reducible refine (spec_l2On.calls _ _ _ _ _ _ _ _ F1.out).mono ?_) | (with_reducible refine (spec_l2On.calls _ _ _ _ _ _ _ _ F2.out).mono ?_) | (with_reducible refine (spec_l2On.calls _ _ _ _ _ _ _ _ F3.out).mono ?_) | (with_reducible refine (spec_l2On.calls _ _ _ _ _ _ _ _ F4.out).mono ?_)); rintro e wz ⟨rfl, hb⟩; have HX2 := Aside0.mk (HX.out.step hb); clear hb HX; have HX := HX2; clear HX2; have p0 := HX.out.p0; have p1 := HX.out.p1; have q0 := HX.out.q0; have q1 := HX.out.q1; have r0 := HX.out.r0; have r1 := HX.out.r1; have s0 := HX.out.s0; have s1 := HX.out.s1); go_ret; exact ⟨rfl, HX.out.be⟩
      case false =>
        rw [if_neg (by decide)] at h
        obtain ⟨b4, F4, h⟩ := Option.bind_eq_some_iff.1 h
        replace F4 := Aside0.mk F4
        cases b4
        case true =>
          obtain rfl := fin1 h
          (try clear h); clear fin1; go_enter Try.func51, Try.ntmps51; go_wp2_with (go_at_call 50; (first | (with_reducible refine (spec_l2On.calls _ _ _ _ _ _ _ _ F1.out).mono ?_) | (with_reducible refine (spec_l2On.calls _ _ _ _ _ _ _ _ F2.out).mono ?_) | (with_reducible refine (spec_l2On.calls _ _ _ _ _ _ _ _ F3.out).mono ?_) | (with_reducible refine (spec_l2On.calls _ _ _ _ _ _ _ _ F4.out).mono ?_)); rintro e wz ⟨rfl, hb⟩; have HX2 := Aside0.mk (HX.out.step hb); clear hb HX; have HX := HX2; clear HX2; have p0 := HX.out.p0; have p1 := HX.out.p1; have q0 := HX.out.q0; have q1 := HX.out.q1; have r0 := HX.out.r0; have r1 := HX.out.r1; have s0 := HX.out.s0; have s1 := HX.out.s1); go_ret; exact ⟨rfl, HX.out.be⟩
        case false =>
          clear fin1
          cases k with
          | zero => simp [spec_l31Meet.j0] at h
          | succ k =>
            rw [spec_l31Meet.j0, if_neg (by decide)] at h
            obtain ⟨t1, G1, h⟩ := Option.bind_eq_some_iff.1 h
            obtain ⟨t2, G2, h⟩ := Option.bind_eq_some_iff.1 h
            replace G1 := Aside0.mk G1
            replace G2 := Aside0.mk G2
            by_cases c : wrap64 (t1 * t2) < 0
            · rw [if_pos c] at h
              obtain ⟨t3, G3, h⟩ := Option.bind_eq_some_iff.1 h
              obtain ⟨t4, G4, h⟩ := Option.bind_eq_some_iff.1 h
              replace G3 := Aside0.mk G3
              replace G4 := Aside0.mk G4
              obtain rfl := Option.some.inj h
              have cb := decide_eq_true c
              clear h c
              go_enter Try.func51, Try.ntmps51
              go_wp2_with (go_at_call 50; (first | (with_reducible refine (spec_l2On.calls _ _ _ _ _ _ _ _ F1.out).mono ?_) | (with_reducible refine (spec_l2On.calls _ _ _ _ _ _ _ _ F2.out).mono ?_) | (with_reducible refine (spec_l2On.calls _ _ _ _ _ _ _ _ F3.out).mono ?_) | (with_reducible refine (spec_l2On.calls _ _ _ _ _ _ _ _ F4.out).mono ?_)); rintro e wz ⟨rfl, hb⟩; have HX2 := Aside0.mk (HX.out.step hb); clear hb HX; have HX := HX2; clear HX2; have p0 := HX.out.p0; have p1 := HX.out.p1; have q0 := HX.out.q0; have q1 := HX.out.q1; have r0 := HX.out.r0; have r1 := HX.out.r1; have s0 := HX.out.s0; have s1 := HX.out.s1)
              refine wpIn_wide (n := 0) |>.1 ?_
              have HF := wide_plain Try.prog
              obtain ⟨VS, hVS⟩ : ∃ VS : List (Option Tmp × Value), [(some 31, .agg #[.int .i64 a0_0, .int .i64 a0_1]), (some 32, .agg #[.int .i64 a1_0, .int .i64 a1_1]), (some 33, .agg #[.int .i64 a2_0, .int .i64 a2_1]), (some 34, .int .i64 t1), (some 35, .agg #[.int .i64 a0_0, .int .i64 a0_1]), (some 36, .agg #[.int .i64 a1_0, .int .i64 a1_1]), (some 37, .agg #[.int .i64 a3_0, .int .i64 a3_1]), (some 38, .int .i64 t2), (some 39, .int .i64 (wrap64 (t1 * t2))), (some 40, .bool true), (some 41, .bool true), (some 42, .agg #[.int .i64 a2_0, .int .i64 a2_1]), (some 43, .agg #[.int .i64 a3_0, .int .i64 a3_1]), (some 44, .agg #[.int .i64 a0_0, .int .i64 a0_1]), (some 45, .int .i64 t3), (some 46, .agg #[.int .i64 a2_0, .int .i64 a2_1]), (some 47, .agg #[.int .i64 a3_0, .int .i64 a3_1]), (some 48, .agg #[.int .i64 a1_0, .int .i64 a1_1]), (some 49, .int .i64 t4), (some 50, .int .i64 (wrap64 (t3 * t4))), (some 51, .bool (decide (wrap64 (t3 * t4) < 0))), (some 52, .bool (decide (wrap64 (t3 * t4) < 0))), (some 8, .bool (decide (wrap64 (t3 * t4) < 0)))] = VS := ⟨_, rfl⟩
              have HN : (VS.filterMap (·.1)).Nodup := by rw [← hVS]; exact (show List.Nodup [(31 : Tmp), (32 : Tmp), (33 : Tmp), (34 : Tmp), (35 : Tmp), (36 : Tmp), (37 : Tmp), (38 : Tmp), (39 : Tmp), (40 : Tmp), (41 : Tmp), (42 : Tmp), (43 : Tmp), (44 : Tmp), (45 : Tmp), (46 : Tmp), (47 : Tmp), (48 : Tmp), (49 : Tmp), (50 : Tmp), (51 : Tmp), (52 : Tmp), (8 : Tmp)] by decide)
              refine act_name fun A0 hA0 => ?_
              have hT_ : 52 < A0.tmps.size := by rw [← hA0]; simp
              have E4 : ∀ L : List Bool, (fill VS L A0).tmps[4]?.getD undef = .pointer (some ⟨w.heap.size, 0, none⟩) := fun L => fill_old _ _ _ qq52 (by rw [← hA0]; rfl)
              have E5 : ∀ L : List Bool, (fill VS L A0).tmps[5]?.getD undef = .pointer (some ⟨w.heap.size + 1, 0, none⟩) := fun L => fill_old _ _ _ qq53 (by rw [← hA0]; rfl)
              have E6 : ∀ L : List Bool, (fill VS L A0).tmps[6]?.getD undef = .pointer (some ⟨w.heap.size + 2, 0, none⟩) := fun L => fill_old _ _ _ qq54 (by rw [← hA0]; rfl)
              have E7 : ∀ L : List Bool, (fill VS L A0).tmps[7]?.getD undef = .pointer (some ⟨w.heap.size + 3, 0, none⟩) := fun L => fill_old _ _ _ qq55 (by rw [← hA0]; rfl)
              refine drawn_same (by kernel_rfl) (early_spec (by kernel_rfl)) VS (by rw [← hVS]; rfl) HN (fun w' => Bx w w' a0_0 a0_1 a1_0 a1_1 a2_0 a2_1 a3_0 a3_1) (HX.out.step ((Below.refl _ _).drew)) ?_ ?_
              · intro i o v L w' ho hv hpre hS K hK
                have hii : i = 0 ∨ i = 1 ∨ i = 2 ∨ i = 3 ∨ i = 4 ∨ i = 5 ∨ i = 6 ∨ i = 7 ∨ i = 8 ∨ i = 9 ∨ i = 10 ∨ i = 11 ∨ i = 12 ∨ i = 13 ∨ i = 14 ∨ i = 15 ∨ i = 16 ∨ i = 17 ∨ i = 18 ∨ i = 19 ∨ i = 20 ∨ i = 21 ∨ i = 22 := by have hq := (Array.getElem?_eq_some_iff.1 ho).1; simp at hq; omega
                rcases hii with rfl | rfl | rfl | rfl | rfl | rfl | rfl | rfl | rfl | rfl | rfl | rfl | rfl | rfl | rfl | rfl | rfl | rfl | rfl | rfl | rfl | rfl | rfl
                · obtain rfl := Option.some.inj ho
                  obtain rfl := vs_at hVS hv rfl
                  have e4 := E4 L
                  have c1 := hS.p0
                  have c2 := hS.p1
                  refine st_val HF rfl (by simp) rfl (w' := w') ?_ (hK w' hS)
                  generalize fill VS L A0 = A at e4 ⊢
                  simp [execOp, go_sem, i64_w, e4, c1, c2]
                · obtain rfl := Option.some.inj ho
                  obtain rfl := vs_at hVS hv rfl
                  have e5 := E5 L
                  have c1 := hS.q0
                  have c2 := hS.q1
                  refine st_val HF rfl (by simp) rfl (w' := w') ?_ (hK w' hS)
                  generalize fill VS L A0 = A at e5 ⊢
                  simp [execOp, go_sem, i64_w, e5, c1, c2]
                · obtain rfl := Option.some.inj ho
                  obtain rfl := vs_at hVS hv rfl
                  have e6 := E6 L
                  have c1 := hS.r0
                  have c2 := hS.r1
                  refine st_val HF rfl (by simp) rfl (w' := w') ?_ (hK w' hS)
                  generalize fill VS L A0 = A at e6 ⊢
                  simp [execOp, go_sem, i64_w, e6, c1, c2]
                · obtain rfl := Option.some.inj ho
                  obtain rfl := vs_at hVS hv rfl
                  have e31 := fill_get HN hVS hT_ (t := 31) (j := 0) rfl rfl (hpre ⟨0, .data⟩ (by simp) rfl)
                  have e32 := fill_get HN hVS hT_ (t := 32) (j := 1) rfl rfl (hpre ⟨1, .data⟩ (by simp) rfl)
                  have e33 := fill_get HN hVS hT_ (t := 33) (j := 2) rfl rfl (hpre ⟨2, .data⟩ (by simp) rfl)
                  refine st_call HF rfl (by simp) rfl (w := w') (f := 64) (args := #[.agg #[.int .i64 a0_0, .int .i64 a0_1], .agg #[.int .i64 a1_0, .int .i64 a1_1], .agg #[.int .i64 a2_0, .int .i64 a2_1]]) (v := .int .i64 t1) ?_ ?_
                  · generalize fill VS L A0 = A at e31 e32 e33 ⊢
                    simp [execOp, resolve, go_sem, e31, e32, e33]
                  · refine (spec_l31Side.calls _ _ _ _ _ _ _ w' G1.out).mono ?_; rintro e w2 ⟨rfl, hb2⟩; exact ⟨rfl, hK w2 (hS.step hb2)⟩
                · obtain rfl := Option.some.inj ho
                  obtain rfl := vs_at hVS hv rfl
                  have e4 := E4 L
                  have c1 := hS.p0
                  have c2 := hS.p1
                  refine st_val HF rfl (by simp) rfl (w' := w') ?_ (hK w' hS)
                  generalize fill VS L A0 = A at e4 ⊢
                  simp [execOp, go_sem, i64_w, e4, c1, c2]
                · obtain rfl := Option.some.inj ho
                  obtain rfl := vs_at hVS hv rfl
                  have e5 := E5 L
                  have c1 := hS.q0
                  have c2 := hS.q1
                  refine st_val HF rfl (by simp) rfl (w' := w') ?_ (hK w' hS)
                  generalize fill VS L A0 = A at e5 ⊢
                  simp [execOp, go_sem, i64_w, e5, c1, c2]
                · obtain rfl := Option.some.inj ho
                  obtain rfl := vs_at hVS hv rfl
                  have e7 := E7 L
                  have c1 := hS.s0
                  have c2 := hS.s1
                  refine st_val HF rfl (by simp) rfl (w' := w') ?_ (hK w' hS)
                  generalize fill VS L A0 = A at e7 ⊢
                  simp [execOp, go_sem, i64_w, e7, c1, c2]
                · obtain rfl := Option.some.inj ho
                  obtain rfl := vs_at hVS hv rfl
                  have e35 := fill_get HN hVS hT_ (t := 35) (j := 4) rfl rfl (hpre ⟨4, .data⟩ (by simp) rfl)
                  have e36 := fill_get HN hVS hT_ (t := 36) (j := 5) rfl rfl (hpre ⟨5, .data⟩ (by simp) rfl)
                  have e37 := fill_get HN hVS hT_ (t := 37) (j := 6) rfl rfl (hpre ⟨6, .data⟩ (by simp) rfl)
                  refine st_call HF rfl (by simp) rfl (w := w') (f := 64) (args := #[.agg #[.int .i64 a0_0, .int .i64 a0_1], .agg #[.int .i64 a1_0, .int .i64 a1_1], .agg #[.int .i64 a3_0, .int .i64 a3_1]]) (v := .int .i64 t2) ?_ ?_
                  · generalize fill VS L A0 = A at e35 e36 e37 ⊢
                    simp [execOp, resolve, go_sem, e35, e36, e37]
                  · refine (spec_l31Side.calls _ _ _ _ _ _ _ w' G2.out).mono ?_; rintro e w2 ⟨rfl, hb2⟩; exact ⟨rfl, hK w2 (hS.step hb2)⟩
                · obtain rfl := Option.some.inj ho
                  obtain rfl := vs_at hVS hv rfl
                  have e34 := fill_get HN hVS hT_ (t := 34) (j := 3) rfl rfl (hpre ⟨3, .data⟩ (by simp) rfl)
                  have e38 := fill_get HN hVS hT_ (t := 38) (j := 7) rfl rfl (hpre ⟨7, .data⟩ (by simp) rfl)
                  refine st_val HF rfl (by simp) rfl (w' := w') ?_ (hK w' hS)
                  generalize fill VS L A0 = A at e34 e38 ⊢
                  simp [execOp, go_sem, i64_w, e34, e38]
                · obtain rfl := Option.some.inj ho
                  obtain rfl := vs_at hVS hv rfl
                  have e39 := fill_get HN hVS hT_ (t := 39) (j := 8) rfl rfl (hpre ⟨8, .data⟩ (by simp) rfl)
                  have c1 := cb
                  refine st_val HF rfl (by simp) rfl (w' := w') ?_ (hK w' hS)
                  generalize fill VS L A0 = A at e39 ⊢
                  simp [execOp, go_sem, i64_w, e39, c1]
                · obtain rfl := Option.some.inj ho
                  obtain rfl := vs_at hVS hv rfl
                  have e40 := fill_get HN hVS hT_ (t := 40) (j := 9) rfl rfl (hpre ⟨9, .data⟩ (by simp) rfl)
                  refine st_val HF rfl (by simp) rfl (w' := w') ?_ (hK w' hS)
                  generalize fill VS L A0 = A at e40 ⊢
                  simp [execOp, go_sem, i64_w, e40]
                · obtain rfl := Option.some.inj ho
                  obtain rfl := vs_at hVS hv rfl
                  have eg := fill_get HN hVS hT_ (t := 41) (j := 10) rfl rfl (hpre ⟨10, .guard⟩ (by simp) rfl)
                  have e6 := E6 L
                  have c1 := hS.r0
                  have c2 := hS.r1
                  refine st_val HF rfl (by simp) ((wanted_is rfl rfl eg).trans rfl) (w' := w') ?_ (hK w' hS)
                  generalize fill VS L A0 = A at e6 ⊢
                  simp [execOp, go_sem, i64_w, e6, c1, c2]
                · obtain rfl := Option.some.inj ho
                  obtain rfl := vs_at hVS hv rfl
                  have eg := fill_get HN hVS hT_ (t := 41) (j := 10) rfl rfl (hpre ⟨10, .guard⟩ (by simp) rfl)
                  have e7 := E7 L
                  have c1 := hS.s0
                  have c2 := hS.s1
                  refine st_val HF rfl (by simp) ((wanted_is rfl rfl eg).trans rfl) (w' := w') ?_ (hK w' hS)
                  generalize fill VS L A0 = A at e7 ⊢
                  simp [execOp, go_sem, i64_w, e7, c1, c2]
                · obtain rfl := Option.some.inj ho
                  obtain rfl := vs_at hVS hv rfl
                  have eg := fill_get HN hVS hT_ (t := 41) (j := 10) rfl rfl (hpre ⟨10, .guard⟩ (by simp) rfl)
                  have e4 := E4 L
                  have c1 := hS.p0
                  have c2 := hS.p1
                  refine st_val HF rfl (by simp) ((wanted_is rfl rfl eg).trans rfl) (w' := w') ?_ (hK w' hS)
                  generalize fill VS L A0 = A at e4 ⊢
                  simp [execOp, go_sem, i64_w, e4, c1, c2]
                · obtain rfl := Option.some.inj ho
                  obtain rfl := vs_at hVS hv rfl
                  have eg := fill_get HN hVS hT_ (t := 41) (j := 10) rfl rfl (hpre ⟨10, .guard⟩ (by simp) rfl)
                  have e42 := fill_get HN hVS hT_ (t := 42) (j := 11) rfl rfl (hpre ⟨11, .data⟩ (by simp) rfl)
                  have e43 := fill_get HN hVS hT_ (t := 43) (j := 12) rfl rfl (hpre ⟨12, .data⟩ (by simp) rfl)
                  have e44 := fill_get HN hVS hT_ (t := 44) (j := 13) rfl rfl (hpre ⟨13, .data⟩ (by simp) rfl)
                  refine st_call HF rfl (by simp) ((wanted_is rfl rfl eg).trans rfl) (w := w') (f := 64) (args := #[.agg #[.int .i64 a2_0, .int .i64 a2_1], .agg #[.int .i64 a3_0, .int .i64 a3_1], .agg #[.int .i64 a0_0, .int .i64 a0_1]]) (v := .int .i64 t3) ?_ ?_
                  · generalize fill VS L A0 = A at e42 e43 e44 ⊢
                    simp [execOp, resolve, go_sem, e42, e43, e44]
                  · refine (spec_l31Side.calls _ _ _ _ _ _ _ w' G3.out).mono ?_; rintro e w2 ⟨rfl, hb2⟩; exact ⟨rfl, hK w2 (hS.step hb2)⟩
                · obtain rfl := Option.some.inj ho
                  obtain rfl := vs_at hVS hv rfl
                  have eg := fill_get HN hVS hT_ (t := 41) (j := 10) rfl rfl (hpre ⟨10, .guard⟩ (by simp) rfl)
                  have e6 := E6 L
                  have c1 := hS.r0
                  have c2 := hS.r1
                  refine st_val HF rfl (by simp) ((wanted_is rfl rfl eg).trans rfl) (w' := w') ?_ (hK w' hS)
                  generalize fill VS L A0 = A at e6 ⊢
                  simp [execOp, go_sem, i64_w, e6, c1, c2]
                · obtain rfl := Option.some.inj ho
                  obtain rfl := vs_at hVS hv rfl
                  have eg := fill_get HN hVS hT_ (t := 41) (j := 10) rfl rfl (hpre ⟨10, .guard⟩ (by simp) rfl)
                  have e7 := E7 L
                  have c1 := hS.s0
                  have c2 := hS.s1
                  refine st_val HF rfl (by simp) ((wanted_is rfl rfl eg).trans rfl) (w' := w') ?_ (hK w' hS)
                  generalize fill VS L A0 = A at e7 ⊢
                  simp [execOp, go_sem, i64_w, e7, c1, c2]
                · obtain rfl := Option.some.inj ho
                  obtain rfl := vs_at hVS hv rfl
                  have eg := fill_get HN hVS hT_ (t := 41) (j := 10) rfl rfl (hpre ⟨10, .guard⟩ (by simp) rfl)
                  have e5 := E5 L
                  have c1 := hS.q0
                  have c2 := hS.q1
                  refine st_val HF rfl (by simp) ((wanted_is rfl rfl eg).trans rfl) (w' := w') ?_ (hK w' hS)
                  generalize fill VS L A0 = A at e5 ⊢
                  simp [execOp, go_sem, i64_w, e5, c1, c2]
                · obtain rfl := Option.some.inj ho
                  obtain rfl := vs_at hVS hv rfl
                  have eg := fill_get HN hVS hT_ (t := 41) (j := 10) rfl rfl (hpre ⟨10, .guard⟩ (by simp) rfl)
                  have e46 := fill_get HN hVS hT_ (t := 46) (j := 15) rfl rfl (hpre ⟨15, .data⟩ (by simp) rfl)
                  have e47 := fill_get HN hVS hT_ (t := 47) (j := 16) rfl rfl (hpre ⟨16, .data⟩ (by simp) rfl)
                  have e48 := fill_get HN hVS hT_ (t := 48) (j := 17) rfl rfl (hpre ⟨17, .data⟩ (by simp) rfl)
                  refine st_call HF rfl (by simp) ((wanted_is rfl rfl eg).trans rfl) (w := w') (f := 64) (args := #[.agg #[.int .i64 a2_0, .int .i64 a2_1], .agg #[.int .i64 a3_0, .int .i64 a3_1], .agg #[.int .i64 a1_0, .int .i64 a1_1]]) (v := .int .i64 t4) ?_ ?_
                  · generalize fill VS L A0 = A at e46 e47 e48 ⊢
                    simp [execOp, resolve, go_sem, e46, e47, e48]
                  · refine (spec_l31Side.calls _ _ _ _ _ _ _ w' G4.out).mono ?_; rintro e w2 ⟨rfl, hb2⟩; exact ⟨rfl, hK w2 (hS.step hb2)⟩
                · obtain rfl := Option.some.inj ho
                  obtain rfl := vs_at hVS hv rfl
                  have eg := fill_get HN hVS hT_ (t := 41) (j := 10) rfl rfl (hpre ⟨10, .guard⟩ (by simp) rfl)
                  have e45 := fill_get HN hVS hT_ (t := 45) (j := 14) rfl rfl (hpre ⟨14, .data⟩ (by simp) rfl)
                  have e49 := fill_get HN hVS hT_ (t := 49) (j := 18) rfl rfl (hpre ⟨18, .data⟩ (by simp) rfl)
                  refine st_val HF rfl (by simp) ((wanted_is rfl rfl eg).trans rfl) (w' := w') ?_ (hK w' hS)
                  generalize fill VS L A0 = A at e45 e49 ⊢
                  simp [execOp, go_sem, i64_w, e45, e49]
                · obtain rfl := Option.some.inj ho
                  obtain rfl := vs_at hVS hv rfl
                  have eg := fill_get HN hVS hT_ (t := 41) (j := 10) rfl rfl (hpre ⟨10, .guard⟩ (by simp) rfl)
                  have e50 := fill_get HN hVS hT_ (t := 50) (j := 19) rfl rfl (hpre ⟨19, .data⟩ (by simp) rfl)
                  refine st_val HF rfl (by simp) ((wanted_is rfl rfl eg).trans rfl) (w' := w') ?_ (hK w' hS)
                  generalize fill VS L A0 = A at e50 ⊢
                  simp [execOp, go_sem, i64_w, e50]
                · obtain rfl := Option.some.inj ho
                  obtain rfl := vs_at hVS hv rfl
                  have e41 := fill_get HN hVS hT_ (t := 41) (j := 10) rfl rfl (hpre ⟨10, .data⟩ (by simp) rfl)
                  have e51 := fill_get HN hVS hT_ (t := 51) (j := 20) rfl rfl (hpre ⟨20, .data⟩ (by simp) rfl)
                  refine st_val HF rfl (by simp) rfl (w' := w') ?_ (hK w' hS)
                  generalize fill VS L A0 = A at e41 e51 ⊢
                  simp [execOp, go_sem, i64_w, e41, e51]
                · obtain rfl := Option.some.inj ho
                  obtain rfl := vs_at hVS hv rfl
                  have e52 := fill_get HN hVS hT_ (t := 52) (j := 21) rfl rfl (hpre ⟨21, .data⟩ (by simp) rfl)
                  refine st_val HF rfl (by simp) rfl (w' := w') ?_ (hK w' hS)
                  generalize fill VS L A0 = A at e52 ⊢
                  simp [execOp, go_sem, i64_w, e52]
              · intro w' hS'
                rw [← hVS, ← hA0]
                simp only [List.size_toArray, List.length_cons, List.length_nil, Nat.reduceAdd, List.replicate, fill, if_true, Act.put, List.setIfInBounds_toArray, List.set_cons_succ, List.set_cons_zero]
                clear HN E4 E5 E6 E7 hVS hA0 hT_
                have HX := Aside0.mk hS'
                clear hS'
                go_wp2
                go_ret
                exact ⟨rfl, HX.out.be⟩
            · rw [if_neg c] at h
              obtain rfl := Option.some.inj h
              have cb := decide_eq_false c
              clear h c
              go_enter Try.func51, Try.ntmps51
              go_wp2_with (go_at_call 50; (first | (with_reducible refine (spec_l2On.calls _ _ _ _ _ _ _ _ F1.out).mono ?_) | (with_reducible refine (spec_l2On.calls _ _ _ _ _ _ _ _ F2.out).mono ?_) | (with_reducible refine (spec_l2On.calls _ _ _ _ _ _ _ _ F3.out).mono ?_) | (with_reducible refine (spec_l2On.calls _ _ _ _ _ _ _ _ F4.out).mono ?_)); rintro e wz ⟨rfl, hb⟩; have HX2 := Aside0.mk (HX.out.step hb); clear hb HX; have HX := HX2; clear HX2; have p0 := HX.out.p0; have p1 := HX.out.p1; have q0 := HX.out.q0; have q1 := HX.out.q1; have r0 := HX.out.r0; have r1 := HX.out.r1; have s0 := HX.out.s0; have s1 := HX.out.s1)
              refine wpIn_wide (n := 0) |>.1 ?_
              have HF := wide_plain Try.prog
              obtain ⟨VS, hVS⟩ : ∃ VS : List (Option Tmp × Value), [(some 31, .agg #[.int .i64 a0_0, .int .i64 a0_1]), (some 32, .agg #[.int .i64 a1_0, .int .i64 a1_1]), (some 33, .agg #[.int .i64 a2_0, .int .i64 a2_1]), (some 34, .int .i64 t1), (some 35, .agg #[.int .i64 a0_0, .int .i64 a0_1]), (some 36, .agg #[.int .i64 a1_0, .int .i64 a1_1]), (some 37, .agg #[.int .i64 a3_0, .int .i64 a3_1]), (some 38, .int .i64 t2), (some 39, .int .i64 (wrap64 (t1 * t2))), (some 40, .bool false), (some 41, .bool false), (some 42, undef), (some 43, undef), (some 44, undef), (some 45, undef), (some 46, undef), (some 47, undef), (some 48, undef), (some 49, undef), (some 50, undef), (some 51, undef), (some 52, .bool false), (some 8, .bool false)] = VS := ⟨_, rfl⟩
              have HN : (VS.filterMap (·.1)).Nodup := by rw [← hVS]; exact (show List.Nodup [(31 : Tmp), (32 : Tmp), (33 : Tmp), (34 : Tmp), (35 : Tmp), (36 : Tmp), (37 : Tmp), (38 : Tmp), (39 : Tmp), (40 : Tmp), (41 : Tmp), (42 : Tmp), (43 : Tmp), (44 : Tmp), (45 : Tmp), (46 : Tmp), (47 : Tmp), (48 : Tmp), (49 : Tmp), (50 : Tmp), (51 : Tmp), (52 : Tmp), (8 : Tmp)] by decide)
              refine act_name fun A0 hA0 => ?_
              have hT_ : 52 < A0.tmps.size := by rw [← hA0]; simp
              have E4 : ∀ L : List Bool, (fill VS L A0).tmps[4]?.getD undef = .pointer (some ⟨w.heap.size, 0, none⟩) := fun L => fill_old _ _ _ qq52 (by rw [← hA0]; rfl)
              have E5 : ∀ L : List Bool, (fill VS L A0).tmps[5]?.getD undef = .pointer (some ⟨w.heap.size + 1, 0, none⟩) := fun L => fill_old _ _ _ qq53 (by rw [← hA0]; rfl)
              have E6 : ∀ L : List Bool, (fill VS L A0).tmps[6]?.getD undef = .pointer (some ⟨w.heap.size + 2, 0, none⟩) := fun L => fill_old _ _ _ qq54 (by rw [← hA0]; rfl)
              have E7 : ∀ L : List Bool, (fill VS L A0).tmps[7]?.getD undef = .pointer (some ⟨w.heap.size + 3, 0, none⟩) := fun L => fill_old _ _ _ qq55 (by rw [← hA0]; rfl)
              refine drawn_same (by kernel_rfl) (early_spec (by kernel_rfl)) VS (by rw [← hVS]; rfl) HN (fun w' => Bx w w' a0_0 a0_1 a1_0 a1_1 a2_0 a2_1 a3_0 a3_1) (HX.out.step ((Below.refl _ _).drew)) ?_ ?_
              · intro i o v L w' ho hv hpre hS K hK
                have hii : i = 0 ∨ i = 1 ∨ i = 2 ∨ i = 3 ∨ i = 4 ∨ i = 5 ∨ i = 6 ∨ i = 7 ∨ i = 8 ∨ i = 9 ∨ i = 10 ∨ i = 11 ∨ i = 12 ∨ i = 13 ∨ i = 14 ∨ i = 15 ∨ i = 16 ∨ i = 17 ∨ i = 18 ∨ i = 19 ∨ i = 20 ∨ i = 21 ∨ i = 22 := by have hq := (Array.getElem?_eq_some_iff.1 ho).1; simp at hq; omega
                rcases hii with rfl | rfl | rfl | rfl | rfl | rfl | rfl | rfl | rfl | rfl | rfl | rfl | rfl | rfl | rfl | rfl | rfl | rfl | rfl | rfl | rfl | rfl | rfl
                · obtain rfl := Option.some.inj ho
                  obtain rfl := vs_at hVS hv rfl
                  have e4 := E4 L
                  have c1 := hS.p0
                  have c2 := hS.p1
                  refine st_val HF rfl (by simp) rfl (w' := w') ?_ (hK w' hS)
                  generalize fill VS L A0 = A at e4 ⊢
                  simp [execOp, go_sem, i64_w, e4, c1, c2]
                · obtain rfl := Option.some.inj ho
                  obtain rfl := vs_at hVS hv rfl
                  have e5 := E5 L
                  have c1 := hS.q0
                  have c2 := hS.q1
                  refine st_val HF rfl (by simp) rfl (w' := w') ?_ (hK w' hS)
                  generalize fill VS L A0 = A at e5 ⊢
                  simp [execOp, go_sem, i64_w, e5, c1, c2]
                · obtain rfl := Option.some.inj ho
                  obtain rfl := vs_at hVS hv rfl
                  have e6 := E6 L
                  have c1 := hS.r0
                  have c2 := hS.r1
                  refine st_val HF rfl (by simp) rfl (w' := w') ?_ (hK w' hS)
                  generalize fill VS L A0 = A at e6 ⊢
                  simp [execOp, go_sem, i64_w, e6, c1, c2]
                · obtain rfl := Option.some.inj ho
                  obtain rfl := vs_at hVS hv rfl
                  have e31 := fill_get HN hVS hT_ (t := 31) (j := 0) rfl rfl (hpre ⟨0, .data⟩ (by simp) rfl)
                  have e32 := fill_get HN hVS hT_ (t := 32) (j := 1) rfl rfl (hpre ⟨1, .data⟩ (by simp) rfl)
                  have e33 := fill_get HN hVS hT_ (t := 33) (j := 2) rfl rfl (hpre ⟨2, .data⟩ (by simp) rfl)
                  refine st_call HF rfl (by simp) rfl (w := w') (f := 64) (args := #[.agg #[.int .i64 a0_0, .int .i64 a0_1], .agg #[.int .i64 a1_0, .int .i64 a1_1], .agg #[.int .i64 a2_0, .int .i64 a2_1]]) (v := .int .i64 t1) ?_ ?_
                  · generalize fill VS L A0 = A at e31 e32 e33 ⊢
                    simp [execOp, resolve, go_sem, e31, e32, e33]
                  · refine (spec_l31Side.calls _ _ _ _ _ _ _ w' G1.out).mono ?_; rintro e w2 ⟨rfl, hb2⟩; exact ⟨rfl, hK w2 (hS.step hb2)⟩
                · obtain rfl := Option.some.inj ho
                  obtain rfl := vs_at hVS hv rfl
                  have e4 := E4 L
                  have c1 := hS.p0
                  have c2 := hS.p1
                  refine st_val HF rfl (by simp) rfl (w' := w') ?_ (hK w' hS)
                  generalize fill VS L A0 = A at e4 ⊢
                  simp [execOp, go_sem, i64_w, e4, c1, c2]
                · obtain rfl := Option.some.inj ho
                  obtain rfl := vs_at hVS hv rfl
                  have e5 := E5 L
                  have c1 := hS.q0
                  have c2 := hS.q1
                  refine st_val HF rfl (by simp) rfl (w' := w') ?_ (hK w' hS)
                  generalize fill VS L A0 = A at e5 ⊢
                  simp [execOp, go_sem, i64_w, e5, c1, c2]
                · obtain rfl := Option.some.inj ho
                  obtain rfl := vs_at hVS hv rfl
                  have e7 := E7 L
                  have c1 := hS.s0
                  have c2 := hS.s1
                  refine st_val HF rfl (by simp) rfl (w' := w') ?_ (hK w' hS)
                  generalize fill VS L A0 = A at e7 ⊢
                  simp [execOp, go_sem, i64_w, e7, c1, c2]
                · obtain rfl := Option.some.inj ho
                  obtain rfl := vs_at hVS hv rfl
                  have e35 := fill_get HN hVS hT_ (t := 35) (j := 4) rfl rfl (hpre ⟨4, .data⟩ (by simp) rfl)
                  have e36 := fill_get HN hVS hT_ (t := 36) (j := 5) rfl rfl (hpre ⟨5, .data⟩ (by simp) rfl)
                  have e37 := fill_get HN hVS hT_ (t := 37) (j := 6) rfl rfl (hpre ⟨6, .data⟩ (by simp) rfl)
                  refine st_call HF rfl (by simp) rfl (w := w') (f := 64) (args := #[.agg #[.int .i64 a0_0, .int .i64 a0_1], .agg #[.int .i64 a1_0, .int .i64 a1_1], .agg #[.int .i64 a3_0, .int .i64 a3_1]]) (v := .int .i64 t2) ?_ ?_
                  · generalize fill VS L A0 = A at e35 e36 e37 ⊢
                    simp [execOp, resolve, go_sem, e35, e36, e37]
                  · refine (spec_l31Side.calls _ _ _ _ _ _ _ w' G2.out).mono ?_; rintro e w2 ⟨rfl, hb2⟩; exact ⟨rfl, hK w2 (hS.step hb2)⟩
                · obtain rfl := Option.some.inj ho
                  obtain rfl := vs_at hVS hv rfl
                  have e34 := fill_get HN hVS hT_ (t := 34) (j := 3) rfl rfl (hpre ⟨3, .data⟩ (by simp) rfl)
                  have e38 := fill_get HN hVS hT_ (t := 38) (j := 7) rfl rfl (hpre ⟨7, .data⟩ (by simp) rfl)
                  refine st_val HF rfl (by simp) rfl (w' := w') ?_ (hK w' hS)
                  generalize fill VS L A0 = A at e34 e38 ⊢
                  simp [execOp, go_sem, i64_w, e34, e38]
                · obtain rfl := Option.some.inj ho
                  obtain rfl := vs_at hVS hv rfl
                  have e39 := fill_get HN hVS hT_ (t := 39) (j := 8) rfl rfl (hpre ⟨8, .data⟩ (by simp) rfl)
                  have c1 := cb
                  refine st_val HF rfl (by simp) rfl (w' := w') ?_ (hK w' hS)
                  generalize fill VS L A0 = A at e39 ⊢
                  simp [execOp, go_sem, i64_w, e39, c1]
                · obtain rfl := Option.some.inj ho
                  obtain rfl := vs_at hVS hv rfl
                  have e40 := fill_get HN hVS hT_ (t := 40) (j := 9) rfl rfl (hpre ⟨9, .data⟩ (by simp) rfl)
                  refine st_val HF rfl (by simp) rfl (w' := w') ?_ (hK w' hS)
                  generalize fill VS L A0 = A at e40 ⊢
                  simp [execOp, go_sem, i64_w, e40]
                · obtain rfl := Option.some.inj ho
                  obtain rfl := vs_at hVS hv rfl
                  have eg := fill_get HN hVS hT_ (t := 41) (j := 10) rfl rfl (hpre ⟨10, .guard⟩ (by simp) rfl)
                  exact st_unwanted HF rfl ((wanted_is rfl rfl eg).trans rfl) (hK w' hS)
                · obtain rfl := Option.some.inj ho
                  obtain rfl := vs_at hVS hv rfl
                  have eg := fill_get HN hVS hT_ (t := 41) (j := 10) rfl rfl (hpre ⟨10, .guard⟩ (by simp) rfl)
                  exact st_unwanted HF rfl ((wanted_is rfl rfl eg).trans rfl) (hK w' hS)
                · obtain rfl := Option.some.inj ho
                  obtain rfl := vs_at hVS hv rfl
                  have eg := fill_get HN hVS hT_ (t := 41) (j := 10) rfl rfl (hpre ⟨10, .guard⟩ (by simp) rfl)
                  exact st_unwanted HF rfl ((wanted_is rfl rfl eg).trans rfl) (hK w' hS)
                · obtain rfl := Option.some.inj ho
                  obtain rfl := vs_at hVS hv rfl
                  have eg := fill_get HN hVS hT_ (t := 41) (j := 10) rfl rfl (hpre ⟨10, .guard⟩ (by simp) rfl)
                  exact st_unwanted HF rfl ((wanted_is rfl rfl eg).trans rfl) (hK w' hS)
                · obtain rfl := Option.some.inj ho
                  obtain rfl := vs_at hVS hv rfl
                  have eg := fill_get HN hVS hT_ (t := 41) (j := 10) rfl rfl (hpre ⟨10, .guard⟩ (by simp) rfl)
                  exact st_unwanted HF rfl ((wanted_is rfl rfl eg).trans rfl) (hK w' hS)
                · obtain rfl := Option.some.inj ho
                  obtain rfl := vs_at hVS hv rfl
                  have eg := fill_get HN hVS hT_ (t := 41) (j := 10) rfl rfl (hpre ⟨10, .guard⟩ (by simp) rfl)
                  exact st_unwanted HF rfl ((wanted_is rfl rfl eg).trans rfl) (hK w' hS)
                · obtain rfl := Option.some.inj ho
                  obtain rfl := vs_at hVS hv rfl
                  have eg := fill_get HN hVS hT_ (t := 41) (j := 10) rfl rfl (hpre ⟨10, .guard⟩ (by simp) rfl)
                  exact st_unwanted HF rfl ((wanted_is rfl rfl eg).trans rfl) (hK w' hS)
                · obtain rfl := Option.some.inj ho
                  obtain rfl := vs_at hVS hv rfl
                  have eg := fill_get HN hVS hT_ (t := 41) (j := 10) rfl rfl (hpre ⟨10, .guard⟩ (by simp) rfl)
                  exact st_unwanted HF rfl ((wanted_is rfl rfl eg).trans rfl) (hK w' hS)
                · obtain rfl := Option.some.inj ho
                  obtain rfl := vs_at hVS hv rfl
                  have eg := fill_get HN hVS hT_ (t := 41) (j := 10) rfl rfl (hpre ⟨10, .guard⟩ (by simp) rfl)
                  exact st_unwanted HF rfl ((wanted_is rfl rfl eg).trans rfl) (hK w' hS)
                · obtain rfl := Option.some.inj ho
                  obtain rfl := vs_at hVS hv rfl
                  have eg := fill_get HN hVS hT_ (t := 41) (j := 10) rfl rfl (hpre ⟨10, .guard⟩ (by simp) rfl)
                  exact st_unwanted HF rfl ((wanted_is rfl rfl eg).trans rfl) (hK w' hS)
                · obtain rfl := Option.some.inj ho
                  obtain rfl := vs_at hVS hv rfl
                  have e41 := fill_get HN hVS hT_ (t := 41) (j := 10) rfl rfl (hpre ⟨10, .data⟩ (by simp) rfl)
                  have e51 := fill_get HN hVS hT_ (t := 51) (j := 20) rfl rfl (hpre ⟨20, .data⟩ (by simp) rfl)
                  refine st_val HF rfl (by simp) rfl (w' := w') ?_ (hK w' hS)
                  generalize fill VS L A0 = A at e41 e51 ⊢
                  simp [execOp, go_sem, i64_w, e41, e51]
                · obtain rfl := Option.some.inj ho
                  obtain rfl := vs_at hVS hv rfl
                  have e52 := fill_get HN hVS hT_ (t := 52) (j := 21) rfl rfl (hpre ⟨21, .data⟩ (by simp) rfl)
                  refine st_val HF rfl (by simp) rfl (w' := w') ?_ (hK w' hS)
                  generalize fill VS L A0 = A at e52 ⊢
                  simp [execOp, go_sem, i64_w, e52]
              · intro w' hS'
                rw [← hVS, ← hA0]
                simp only [List.size_toArray, List.length_cons, List.length_nil, Nat.reduceAdd, List.replicate, fill, if_true, Act.put, List.setIfInBounds_toArray, List.set_cons_succ, List.set_cons_zero]
                clear HN E4 E5 E6 E7 hVS hA0 hT_
                have HX := Aside0.mk hS'
                clear hS'
                go_wp2
                go_ret
                exact ⟨rfl, HX.out.be⟩

end Go.Proofs.Ytgdhgncdpmalcaa.Q
namespace Go.Proofs.Ytgdhgncdpmalcaa.Ring
open Go.RowKit Go.Shelf Go.Proofs.Ytgdhgncdpmalcaa.Q Go.Proofs.Ytgdhgncdpmalcaa.Drawn Go.Proofs.YtgdhgncdpmalcaaW.PrintWords Go.Proofs.YtgdhgncdpmalcaaW.PrintLast Go.Proofs.YtgdhgncdpmalcaaW.PrintMore
theorem pv_at {l : List Pt} (h : Pure.cvB l = true) {j : Nat} (hj : j < l.length) : Pure.PV (at_ l j).f0 (at_ l j).f1 = true := by
  have := Pure.ptB_iff.1 ((Pure.cvB_iff.1 h).2 (at_ l j) (by unfold at_; rw [List.getD_eq_getElem?_getD, List.getElem?_eq_getElem hj]; exact List.getElem_mem hj))
  exact Pure.PV_iff.2 ⟨this.1.1, this.1.2, this.2.1, this.2.2⟩
def PVP (p : Pt) : Prop := Pure.PV p.f0 p.f1 = true
theorem on_f {p q r : Pt} (hp : PVP p) (hq : PVP q) (hr : PVP r) : spec_l2On.f p.f0 p.f1 q.f0 q.f1 r.f0 r.f1 = some (onPt p q r) := by
  rw [Pure.spec_l2On_eq hp hq hr]
  unfold onPt Pure.onR
  congr 1
  rw [decide_eq_decide]
  exact ⟨fun h => ⟨hp, hq, hr, h⟩, fun h => h.2.2.2⟩
theorem side_f {p q r : Pt} (hp : PVP p) (hq : PVP q) (hr : PVP r) : spec_l31Side.f p.f0 p.f1 q.f0 q.f1 r.f0 r.f1 = some (sgnP p q r) := by
  unfold spec_l31Side.f
  rw [Pure.spec_l2Step_eq hp hq, Pure.spec_l2Step_eq hp hr]
  simp only [Option.bind_some]
  rw [Pure.spec_cross_eq hp hq hr]
  simp only [Option.bind_some]
  rw [Pure.l1Sign_eq]
  simp only [Option.bind_some]
  unfold sgnP
  rw [Pure.sideR_yes hp hq hr]
theorem sgn_mul (p q r p' q' r' : Pt) : wrap64 (sgnP p q r * sgnP p' q' r') = sgnP p q r * sgnP p' q' r' := by
  obtain ⟨a, b⟩ := sgnP_bd p q r
  obtain ⟨c, d⟩ := sgnP_bd p' q' r'
  generalize sgnP p q r = x at *
  generalize sgnP p' q' r' = y at *
  have hx : x = -1 ∨ x = 0 ∨ x = 1 := by omega
  have hy : y = -1 ∨ y = 0 ∨ y = 1 := by omega
  rcases hx with rfl | rfl | rfl <;> rcases hy with rfl | rfl | rfl <;> exact Pure.pw64 (by decide) (by decide)
theorem meet_f {a b c d : Pt} (ha : PVP a) (hb : PVP b) (hc : PVP c) (hd : PVP d) : spec_l31Meet.f 1 a.f0 a.f1 b.f0 b.f1 c.f0 c.f1 d.f0 d.f1 = some (meetPt a b c d) := by
  unfold spec_l31Meet.f
  rw [on_f ha hb hc, on_f ha hb hd, on_f hc hd ha, on_f hc hd hb]
  simp only [Option.bind_some, spec_l31Meet.j0]
  rw [side_f ha hb hc, side_f ha hb hd, side_f hc hd ha, side_f hc hd hb]
  simp only [Option.bind_some, sgn_mul]
  unfold meetPt
  cases onPt a b c
  · cases onPt a b d
    · cases onPt c d a
      · cases onPt c d b
        · simp only [Bool.false_eq_true, if_false, Bool.false_or]
          by_cases h : sgnP a b c * sgnP a b d < 0
          · rw [if_pos h, decide_eq_true h, Bool.true_and]
          · rw [if_neg h, decide_eq_false h, Bool.false_and]
        · rfl
      · rfl
    · rfl
  · rfl
end Go.Proofs.Ytgdhgncdpmalcaa.Ring
namespace Go.Proofs.Ytgdhgncdpmalcaa.Pure
open Go.RowKit Go.Proofs.Ytgdhgncdpmalcaa.Q Go.Proofs.YtgdhgncdpmalcaaW.PrintWords Go.Proofs.YtgdhgncdpmalcaaW.PrintLast
theorem p6In_eq (a b c : Int) : spec_l6In.f a b c = some (decide (b ≤ a ∧ a ≤ c)) := by
  unfold spec_l6In.f
  by_cases h : a ≥ b
  · rw [if_pos h]; congr 1; rw [decide_eq_decide]; omega
  · rw [if_neg h]; congr 1; symm; rw [decide_eq_false_iff_not]; omega
theorem spec_PtValid_eq (p : Pt) : spec_PointValid.f p.f0 p.f1 = some (ptB p) := by
  simp only [spec_PointValid.f, p6In_eq, Option.bind_some]
  unfold ptB
  by_cases h : -10000 ≤ p.f0 ∧ p.f0 ≤ 10000
  · rw [if_pos (by simpa using h)]; congr 1; rw [decide_eq_decide]; exact ⟨fun q => ⟨h, q⟩, fun q => q.2⟩
  · rw [if_neg (by simpa using h)]; congr 1; symm; rw [decide_eq_false_iff_not]; exact fun q => h q.1
theorem l31Points_l0 {l : List Pt} (hl : l.length ≤ 4611686018427387903) (suf : List Pt) : ∀ (pre : List Pt) (k : Nat), suf.length < k → l = pre ++ suf →
    spec_l31Points.l0 k l (pre.length : Int) = some (suf.all ptB && decide (3 ≤ l.length ∧ l.length ≤ 12)) := by
  induction suf with
  | nil =>
    intro pre k hk he
    obtain ⟨k, rfl⟩ : ∃ m, k = m + 1 := ⟨k - 1, by omega⟩
    rw [List.append_nil] at he
    subst he
    rw [spec_l31Points.l0, if_neg (by omega), p6In_eq]
    simp only [Option.bind_some, List.all_nil, Bool.true_and]
    congr 1; rw [decide_eq_decide]; omega
  | cons y suf ih =>
    intro pre k hk he
    rw [List.length_cons] at hk
    obtain ⟨k, rfl⟩ : ∃ m, k = m + 1 := ⟨k - 1, by omega⟩
    have hlen : l.length = pre.length + suf.length + 1 := by rw [he]; simp; omega
    have hy : rd_T32 l (pre.length : Int) = y := by rw [he]; exact rd_midP pre suf y
    rw [spec_l31Points.l0, if_pos (by omega), if_pos (by omega), hy, spec_PtValid_eq]
    simp only [Option.bind_some, List.all_cons]
    by_cases h : ptB y = true
    · rw [if_pos h, next_midP pre y (by omega), ih (pre ++ [y]) k (by omega) (by rw [he]; simp), h, Bool.true_and]
    · rw [if_neg h, Bool.eq_false_iff.2 h, Bool.false_and, Bool.false_and]
theorem l31Points_eq (k : Nat) (l : List Pt) (hl : l.length ≤ 1048576) (hk : l.length < k) : spec_l31Points.f k l = some (cvB l) := by
  unfold spec_l31Points.f cvB
  have := l31Points_l0 (l := l) (by omega) l [] k hk rfl
  rw [Bool.and_comm] at this
  simpa using this
end Go.Proofs.Ytgdhgncdpmalcaa.Pure
namespace Go.Proofs.Ytgdhgncdpmalcaa.Ring
open Go.RowKit Go.Shelf Go.Proofs.Ytgdhgncdpmalcaa.Q Go.Proofs.Ytgdhgncdpmalcaa.Drawn Go.Proofs.YtgdhgncdpmalcaaW.PrintWords Go.Proofs.YtgdhgncdpmalcaaW.PrintLast Go.Proofs.YtgdhgncdpmalcaaW.PrintMore
set_option linter.unusedVariables false
set_option linter.unusedSimpArgs false
/-- A goal at which a walk stands still. -/
structure Halted (p : Prop) : Prop where
  intro ::
  out : p
/-- What the reference asks of the sides i and k. -/
def badAt (l : List Pt) (i k : Nat) : Bool :=
  if k = i + 1 then sameP (at_ l k) (at_ l i) || sameP (nxt l k) (at_ l k) || onPt (at_ l i) (nxt l i) (nxt l k) || onPt (at_ l k) (nxt l k) (at_ l i)
  else if (k + 1) % l.length = i then onPt (at_ l k) (nxt l k) (nxt l i) || onPt (at_ l i) (nxt l i) (at_ l k)
  else meetPt (at_ l i) (nxt l i) (at_ l k) (nxt l k)
def pairsB (l : List Pt) : Bool := decide (∀ i, i < l.length → ∀ k, k < l.length → i < k → badAt l i k = false)
theorem pairs_bad {l : List Pt} {i k : Nat} (hi : i < l.length) (hk : k < l.length) (hik : i < k) (h : badAt l i k = true) : pairsB l = false :=
  decide_eq_false fun c => by rw [c i hi k hk hik] at h; exact absurd h (by decide)
theorem box_stored {W wS : World} {g : Nat} {t : TypeId} {x y u v : Value} (hb : W.heap[g]? = some (.cells #[u, v] t (0, 0))) (h : wS = (W.setCell ⟨g, 0, none⟩ x).setCell ⟨g, 1, none⟩ y) :
    wS.heap[g]? = some (.cells #[x, y] t (0, 0)) ∧ (∀ g' cs, g' ≠ g → W.heap[g']? = some (.cells cs t (0, 0)) → wS.heap[g']? = some (.cells cs t (0, 0))) ∧ (∀ w : World, Below w.heap.size w W → w.heap.size ≤ g → Below w.heap.size w wS) := by
  subst h
  exact ⟨blk_put (blk_put hb 0 x rfl) 1 y rfl, fun g' o hne hg => blk_far (blk_far hg hne x) hne y, fun w hb hg => below_set (below_set hb hg) hg⟩
theorem rd_below {w W : World} {ad : Addr} {l : List Pt} (hr : Kd.C k32 w (some ad) l.length l) (hb : Below w.heap.size w W) {j : Nat} (hj : j < l.length) :
    W.cell? (ad.add (j * 2)) = some (.int .i64 (at_ l j).f0) ∧ W.cell? ⟨(ad.add (j * 2)).block, (ad.add (j * 2)).off + 1, none⟩ = some (.int .i64 (at_ l j).f1) := by
  obtain ⟨ad1, e1, hx1, hy1⟩ := at_T32 hr (j : Int) (by omega) (by omega)
  cases e1
  rw [Int.toNat_natCast, at_rd] at hx1 hy1
  exact ⟨(hb.cell (World.block_lt_of_cell? w _ hx1)).trans hx1, (hb.cell (World.block_lt_of_cell? w _ hy1)).trans hy1⟩
theorem same_run {p q : Pt} {b : Bool} (h : sameP p q = b) (d : Nat) (w : World) : (Op.equalIn (d + 2) 32 (.agg #[.int .i64 p.f0, .int .i64 p.f1]) (.agg #[.int .i64 q.f0, .int .i64 q.f1])).run Try.prog w = .ok b w := by
  rw [run_samePt, ← h]; rfl
attribute [local irreducible] at_ nxt onPt meetPt sameP
set_option maxRecDepth 100000 in
set_option maxHeartbeats 4000000 in
theorem specValid_yes (A0 : Option Addr) (c0 : Nat) (l0 : List Pt) (w : World) (hr0 : Kd.C k32 w A0 l0.length l0) (hc0 : l0.length ≤ c0) (hcv : Pure.cvB l0 = true) :
    Calls Try.prog 19 #[.slice A0 l0.length c0] w fun e w' => e = .returned (.bool (pairsB l0)) ∧ Below w.heap.size w w' := by
  have h3 := (Pure.cvB_iff.1 hcv).1.1
  have h12 := (Pure.cvB_iff.1 hcv).1.2
  have hpts := (Pure.l31Points_eq 20 l0 (by omega) (by omega)).trans (congrArg some hcv)
  have hnz0 : ¬ (l0.length : Int) = 0 := by omega
  have hnz : ((l0.length : Int) == 0) = false := beq_eq_false_iff_ne.mpr hnz0
  have hnz1 : ¬ (l0 = []) := fun h => by have := congrArg List.length h; rw [List.length_nil] at this; omega
  obtain ⟨ad, rfl, hx0, hy0⟩ := at_T32 hr0 0 (by omega) (by omega)
  clear hx0 hy0
  have HR0 := Aside0.mk hr0
  have HC0 := Aside0.mk hc0
  have HX := Aside0.mk hpts
  clear hr0 hc0 hpts
  go_enter Try.func19, Try.ntmps19
  go_wp2_with (go_at_call 45; refine (spec_l31Points.calls 20 _ _ l0 true _ HR0.out HC0.out HX.out).mono ?_; rintro e w1 ⟨rfl, hb⟩)
  have HB := Aside0.mk hb
  clear hb
  go_loopg [4] (l0.length + 1) (fun kq v4 w' => ∃ (i : Nat), v4 = .int .i64 (i : Int) ∧ Aside0 (i + kq = l0.length + 1 ∧ i ≤ l0.length) ∧ Aside0 (∀ i', i' < i → ∀ k', k' < l0.length → i' < k' → badAt l0 i' k' = false) ∧ Aside0 (Below w.heap.size w w'))
  case atStart => exact ⟨0, rfl, ⟨by omega, by omega⟩, ⟨fun i' h => absurd h (Nat.not_lt_zero _)⟩, ⟨by exact HB.out⟩⟩
  case round =>
    obtain ⟨i, rfl, HI, HN, HB⟩ := hrel
    have hi1 := HI.out
    obtain ⟨ko, rfl⟩ : ∃ m, gk = m + 1 := ⟨gk - 1, by omega⟩
    by_cases hi : i < l0.length
    · have hd : decide ((i : Int) < (l0.length : Int)) = true := decide_eq_true (by omega)
      go_wp2
      go_loopg [5] (l0.length) (fun kq v5 w' => ∃ (j : Nat), v5 = .int .i64 (j : Int) ∧ Aside0 (j + kq = l0.length + i + 1 ∧ i < j ∧ j ≤ l0.length) ∧ Aside0 (∀ k', k' < j → i < k' → badAt l0 i k' = false) ∧ Aside0 (Below w.heap.size w w'))
      case atStart => exact ⟨i + 1, by simp, ⟨by omega, by omega, by omega⟩, ⟨fun i' h => by omega⟩, ⟨by exact (by repeat (first | exact HB.out | apply below_drew1))⟩⟩
      case round =>
        obtain ⟨j, rfl, HJ, HM, HB⟩ := hrel
        have hj1 := HJ.out
        obtain ⟨k1, rfl⟩ : ∃ m, gk = m + 1 := ⟨gk - 1, by omega⟩
        by_cases hj : j < l0.length
        · have hd2 : decide ((j : Int) < (l0.length : Int)) = true := decide_eq_true (by omega)
          obtain ⟨im, him⟩ : ∃ m, (i + 1) % l0.length = m := ⟨_, rfl⟩
          obtain ⟨jm, hjm⟩ : ∃ m, (j + 1) % l0.length = m := ⟨_, rfl⟩
          have him1 : im < l0.length := by rw [← him]; exact Nat.mod_lt _ (by omega)
          have hjm1 : jm < l0.length := by rw [← hjm]; exact Nat.mod_lt _ (by omega)
          have qi : ((i : Int) < (l0.length : Int)) = True := eq_true (Int.ofNat_lt.2 hi)
          have qj : ((j : Int) < (l0.length : Int)) = True := eq_true (Int.ofNat_lt.2 hj)
          have qi1 : ((im : Int) < (l0.length : Int)) = True := eq_true (Int.ofNat_lt.2 him1)
          have qj1 : ((jm : Int) < (l0.length : Int)) = True := eq_true (Int.ofNat_lt.2 hjm1)
          obtain ⟨rx, ry⟩ := rd_below HR0.out HB.out hi
          have HTI : Aside0 (((i : Int) + 1) % (l0.length : Int) = (im : Int)) := ⟨by rw [← him]; rfl⟩
          have HTJ : Aside0 (((j : Int) + 1) % (l0.length : Int) = (jm : Int)) := ⟨by rw [← hjm]; rfl⟩
          go_wp2_with (first | ((with_reducible refine gate_dst (N := 36) rfl ?_); rw [HTI.out]) | ((with_reducible refine gate_dst (N := 47) rfl ?_); rw [HTJ.out]) | ((with_reducible refine gate_dst (N := 85) rfl ?_); rw [HTJ.out]) | ((with_reducible refine gate_dst (N := 6) rfl ?_); refine box_event ?hg (N := 6) ?hd (cs := #[.int .i64 0, .int .i64 0]) (t := 32) ?hr ?_; (case hd => rfl); (case hg => rfl); (case hr => exact qq23); intro ba hg wba hbox hb; have n1 := Aside0.mk (below_step HB.out hb); have n2 := Aside0.mk (qq77 : w.heap.size ≤ ba); have hzba0 : wba.cell? ⟨ba, 0, none⟩ = some (.int .i64 0) := (blk_cell hbox 0).trans rfl; have hzba1 : wba.cell? ⟨ba, 1, none⟩ = some (.int .i64 0) := (blk_cell hbox 1).trans rfl; have hfba0 := blk_frozen hbox 0; have hfba1 := blk_frozen hbox 1; obtain ⟨z1, z2, z3⟩ := box_stored (wS := ((wba.setCell ⟨ba, 0, none⟩ (.int .i64 (at_ l0 i).f0)).setCell ⟨ba, 1, none⟩ (.int .i64 (at_ l0 i).f1))) hbox rfl; have n3 := Aside0.mk (z3 w n1.out n2.out); have n4 := Aside0.mk z1; clear HB z1 z2 z3; have HB := n3; have Gba := n2; have Bba := n4; clear n1 n2 n3 n4 hbox hb hg; clear rx ry; obtain ⟨rx, ry⟩ := rd_below HR0.out HB.out him1) | ((with_reducible refine gate_dst (N := 7) rfl ?_); refine box_event ?hg (N := 7) ?hd (cs := #[.int .i64 0, .int .i64 0]) (t := 32) ?hr ?_; (case hd => rfl); (case hg => rfl); (case hr => exact qq23); intro bb hg wbb hbox hb; have n1 := Aside0.mk (below_step HB.out hb); have n2 := Aside0.mk (qq77 : w.heap.size ≤ bb); have k0 := Aside0.mk (blk_below Bba.out hb); have m0 := Aside0.mk ((qq76 Bba.out) : ba ≠ bb); have hzbb0 : wbb.cell? ⟨bb, 0, none⟩ = some (.int .i64 0) := (blk_cell hbox 0).trans rfl; have hzbb1 : wbb.cell? ⟨bb, 1, none⟩ = some (.int .i64 0) := (blk_cell hbox 1).trans rfl; have hfbb0 := blk_frozen hbox 0; have hfbb1 := blk_frozen hbox 1; obtain ⟨z1, z2, z3⟩ := box_stored (wS := ((wbb.setCell ⟨bb, 0, none⟩ (.int .i64 (at_ l0 im).f0)).setCell ⟨bb, 1, none⟩ (.int .i64 (at_ l0 im).f1))) hbox rfl; have n3 := Aside0.mk (z3 w n1.out n2.out); have n4 := Aside0.mk z1; have q0 := Aside0.mk (z2 ba _ m0.out k0.out); clear HB z1 z2 z3 Bba k0; have HB := n3; have Gbb := n2; have Bbb := n4; clear n1 n2 n3 n4 hbox hb hg; have Bba := q0; have Nbabb := m0; clear q0 m0; clear hzba0 hzba1 hfba0 hfba1; clear rx ry; obtain ⟨rx, ry⟩ := rd_below HR0.out HB.out hj) | ((with_reducible refine gate_dst (N := 8) rfl ?_); refine box_event ?hg (N := 8) ?hd (cs := #[.int .i64 0, .int .i64 0]) (t := 32) ?hr ?_; (case hd => rfl); (case hg => rfl); (case hr => exact qq23); intro bc hg wbc hbox hb; have n1 := Aside0.mk (below_step HB.out hb); have n2 := Aside0.mk (qq77 : w.heap.size ≤ bc); have k0 := Aside0.mk (blk_below Bba.out hb); have m0 := Aside0.mk ((qq76 Bba.out) : ba ≠ bc); have k1 := Aside0.mk (blk_below Bbb.out hb); have m1 := Aside0.mk ((qq76 Bbb.out) : bb ≠ bc); have hzbc0 : wbc.cell? ⟨bc, 0, none⟩ = some (.int .i64 0) := (blk_cell hbox 0).trans rfl; have hzbc1 : wbc.cell? ⟨bc, 1, none⟩ = some (.int .i64 0) := (blk_cell hbox 1).trans rfl; have hfbc0 := blk_frozen hbox 0; have hfbc1 := blk_frozen hbox 1; obtain ⟨z1, z2, z3⟩ := box_stored (wS := ((wbc.setCell ⟨bc, 0, none⟩ (.int .i64 (at_ l0 j).f0)).setCell ⟨bc, 1, none⟩ (.int .i64 (at_ l0 j).f1))) hbox rfl; have n3 := Aside0.mk (z3 w n1.out n2.out); have n4 := Aside0.mk z1; have q0 := Aside0.mk (z2 ba _ m0.out k0.out); have q1 := Aside0.mk (z2 bb _ m1.out k1.out); clear HB z1 z2 z3 Bba k0 Bbb k1; have HB := n3; have Gbc := n2; have Bbc := n4; clear n1 n2 n3 n4 hbox hb hg; have Bba := q0; have Nbabc := m0; clear q0 m0; have Bbb := q1; have Nbbbc := m1; clear q1 m1; clear hzbb0 hzbb1 hfbb0 hfbb1; clear rx ry; obtain ⟨rx, ry⟩ := rd_below HR0.out HB.out hjm1) | ((with_reducible refine gate_dst (N := 9) rfl ?_); refine box_event ?hg (N := 9) ?hd (cs := #[.int .i64 0, .int .i64 0]) (t := 32) ?hr ?_; (case hd => rfl); (case hg => rfl); (case hr => exact qq23); intro bd hg wbd hbox hb; have n1 := Aside0.mk (below_step HB.out hb); have n2 := Aside0.mk (qq77 : w.heap.size ≤ bd); have k0 := Aside0.mk (blk_below Bba.out hb); have m0 := Aside0.mk ((qq76 Bba.out) : ba ≠ bd); have k1 := Aside0.mk (blk_below Bbb.out hb); have m1 := Aside0.mk ((qq76 Bbb.out) : bb ≠ bd); have k2 := Aside0.mk (blk_below Bbc.out hb); have m2 := Aside0.mk ((qq76 Bbc.out) : bc ≠ bd); have hzbd0 : wbd.cell? ⟨bd, 0, none⟩ = some (.int .i64 0) := (blk_cell hbox 0).trans rfl; have hzbd1 : wbd.cell? ⟨bd, 1, none⟩ = some (.int .i64 0) := (blk_cell hbox 1).trans rfl; have hfbd0 := blk_frozen hbox 0; have hfbd1 := blk_frozen hbox 1; obtain ⟨z1, z2, z3⟩ := box_stored (wS := ((wbd.setCell ⟨bd, 0, none⟩ (.int .i64 (at_ l0 jm).f0)).setCell ⟨bd, 1, none⟩ (.int .i64 (at_ l0 jm).f1))) hbox rfl; have n3 := Aside0.mk (z3 w n1.out n2.out); have n4 := Aside0.mk z1; have q0 := Aside0.mk (z2 ba _ m0.out k0.out); have q1 := Aside0.mk (z2 bb _ m1.out k1.out); have q2 := Aside0.mk (z2 bc _ m2.out k2.out); clear HB z1 z2 z3 Bba k0 Bbb k1 Bbc k2; have HB := n3; have Gbd := n2; have Bbd := n4; clear n1 n2 n3 n4 hbox hb hg; have Bba := q0; have Nbabd := m0; clear q0 m0; have Bbb := q1; have Nbbbd := m1; clear q1 m1; have Bbc := q2; have Nbcbd := m2; clear q2 m2; clear hzbc0 hzbc1 hfbc0 hfbc1; clear rx ry; have cba0 : ((wbd.setCell ⟨bd, 0, none⟩ (.int .i64 (at_ l0 jm).f0)).setCell ⟨bd, 1, none⟩ (.int .i64 (at_ l0 jm).f1)).cell? ⟨ba, 0, none⟩ = some (.int .i64 (at_ l0 i).f0) := (blk_cell Bba.out 0).trans rfl; have cba1 : ((wbd.setCell ⟨bd, 0, none⟩ (.int .i64 (at_ l0 jm).f0)).setCell ⟨bd, 1, none⟩ (.int .i64 (at_ l0 jm).f1)).cell? ⟨ba, 1, none⟩ = some (.int .i64 (at_ l0 i).f1) := (blk_cell Bba.out 1).trans rfl; have cbb0 : ((wbd.setCell ⟨bd, 0, none⟩ (.int .i64 (at_ l0 jm).f0)).setCell ⟨bd, 1, none⟩ (.int .i64 (at_ l0 jm).f1)).cell? ⟨bb, 0, none⟩ = some (.int .i64 (at_ l0 im).f0) := (blk_cell Bbb.out 0).trans rfl; have cbb1 : ((wbd.setCell ⟨bd, 0, none⟩ (.int .i64 (at_ l0 jm).f0)).setCell ⟨bd, 1, none⟩ (.int .i64 (at_ l0 jm).f1)).cell? ⟨bb, 1, none⟩ = some (.int .i64 (at_ l0 im).f1) := (blk_cell Bbb.out 1).trans rfl; have cbc0 : ((wbd.setCell ⟨bd, 0, none⟩ (.int .i64 (at_ l0 jm).f0)).setCell ⟨bd, 1, none⟩ (.int .i64 (at_ l0 jm).f1)).cell? ⟨bc, 0, none⟩ = some (.int .i64 (at_ l0 j).f0) := (blk_cell Bbc.out 0).trans rfl; have cbc1 : ((wbd.setCell ⟨bd, 0, none⟩ (.int .i64 (at_ l0 jm).f0)).setCell ⟨bd, 1, none⟩ (.int .i64 (at_ l0 jm).f1)).cell? ⟨bc, 1, none⟩ = some (.int .i64 (at_ l0 j).f1) := (blk_cell Bbc.out 1).trans rfl; have cbd0 : ((wbd.setCell ⟨bd, 0, none⟩ (.int .i64 (at_ l0 jm).f0)).setCell ⟨bd, 1, none⟩ (.int .i64 (at_ l0 jm).f1)).cell? ⟨bd, 0, none⟩ = some (.int .i64 (at_ l0 jm).f0) := (blk_cell Bbd.out 0).trans rfl; have cbd1 : ((wbd.setCell ⟨bd, 0, none⟩ (.int .i64 (at_ l0 jm).f0)).setCell ⟨bd, 1, none⟩ (.int .i64 (at_ l0 jm).f1)).cell? ⟨bd, 1, none⟩ = some (.int .i64 (at_ l0 jm).f1) := (blk_cell Bbd.out 1).trans rfl) | ((with_reducible refine gate_dst (N := 58) rfl ?_); refine Halted.out ?_))
          by_cases hc1 : j = i + 1
          · skip
            have hk1 : ((j : Int) == (i : Int) + 1) = true := by rw [hc1]; exact beq_self_eq_true _
            obtain ⟨e1, he1⟩ : ∃ b, sameP (at_ l0 j) (at_ l0 i) = b := ⟨_, rfl⟩
            obtain ⟨e2, he2⟩ : ∃ b, sameP (at_ l0 jm) (at_ l0 j) = b := ⟨_, rfl⟩
            obtain ⟨b1, hb1⟩ : ∃ b, onPt (at_ l0 i) (at_ l0 im) (at_ l0 jm) = b := ⟨_, rfl⟩
            obtain ⟨b2, hb2⟩ : ∃ b, onPt (at_ l0 j) (at_ l0 jm) (at_ l0 i) = b := ⟨_, rfl⟩
            have F1 := Aside0.mk ((on_f (pv_at hcv hi) (pv_at hcv him1) (pv_at hcv hjm1)).trans (congrArg some hb1))
            have F2 := Aside0.mk ((on_f (pv_at hcv hj) (pv_at hcv hjm1) (pv_at hcv hi)).trans (congrArg some hb2))
            have RS1 := same_run he1
            have RS2 := same_run he2
            have HBAD : badAt l0 i j = (e1 || e2 || b1 || b2) := by unfold badAt nxt; rw [if_pos hc1, hjm, him, he1, he2, hb1, hb2]
            have HC1 := Aside0.mk hc1
            have HCV := Aside0.mk hcv
            clear hcv him hjm hb1 hb2 hc1 he1 he2
            cases e1
            · cases e2
              · cases b1
                · cases b2
                  · refine Halted.intro ?_; go_wp2_with (first | ((with_reducible refine gate_dst (N := 85) rfl ?_); rw [HTJ.out]) | (go_at_call 50; with_reducible refine (spec_l2On.calls (at_ l0 i).f0 (at_ l0 i).f1 (at_ l0 im).f0 (at_ l0 im).f1 (at_ l0 jm).f0 (at_ l0 jm).f1 _ _ F1.out).mono ?_; rintro e wz ⟨rfl, hb⟩; have n1 := Aside0.mk (below_step HB.out hb); have kba := Aside0.mk (blk_below Bba.out hb); have kbb := Aside0.mk (blk_below Bbb.out hb); have kbc := Aside0.mk (blk_below Bbc.out hb); have kbd := Aside0.mk (blk_below Bbd.out hb); clear HB Bba Bbb Bbc Bbd cba0 cba1 cbb0 cbb1 cbc0 cbc1 cbd0 cbd1; have HB := n1; clear n1 hb; have Bba := kba; clear kba; have cba0 : wz.cell? ⟨ba, 0, none⟩ = some (.int .i64 (at_ l0 i).f0) := (blk_cell Bba.out 0).trans rfl; have cba1 : wz.cell? ⟨ba, 1, none⟩ = some (.int .i64 (at_ l0 i).f1) := (blk_cell Bba.out 1).trans rfl; have Bbb := kbb; clear kbb; have cbb0 : wz.cell? ⟨bb, 0, none⟩ = some (.int .i64 (at_ l0 im).f0) := (blk_cell Bbb.out 0).trans rfl; have cbb1 : wz.cell? ⟨bb, 1, none⟩ = some (.int .i64 (at_ l0 im).f1) := (blk_cell Bbb.out 1).trans rfl; have Bbc := kbc; clear kbc; have cbc0 : wz.cell? ⟨bc, 0, none⟩ = some (.int .i64 (at_ l0 j).f0) := (blk_cell Bbc.out 0).trans rfl; have cbc1 : wz.cell? ⟨bc, 1, none⟩ = some (.int .i64 (at_ l0 j).f1) := (blk_cell Bbc.out 1).trans rfl; have Bbd := kbd; clear kbd; have cbd0 : wz.cell? ⟨bd, 0, none⟩ = some (.int .i64 (at_ l0 jm).f0) := (blk_cell Bbd.out 0).trans rfl; have cbd1 : wz.cell? ⟨bd, 1, none⟩ = some (.int .i64 (at_ l0 jm).f1) := (blk_cell Bbd.out 1).trans rfl) | (go_at_call 50; with_reducible refine (spec_l2On.calls (at_ l0 j).f0 (at_ l0 j).f1 (at_ l0 jm).f0 (at_ l0 jm).f1 (at_ l0 i).f0 (at_ l0 i).f1 _ _ F2.out).mono ?_; rintro e wy ⟨rfl, hb⟩; have n1 := Aside0.mk (below_step HB.out hb); have kba := Aside0.mk (blk_below Bba.out hb); have kbb := Aside0.mk (blk_below Bbb.out hb); have kbc := Aside0.mk (blk_below Bbc.out hb); have kbd := Aside0.mk (blk_below Bbd.out hb); clear HB Bba Bbb Bbc Bbd cba0 cba1 cbb0 cbb1 cbc0 cbc1 cbd0 cbd1; have HB := n1; clear n1 hb; have Bba := kba; clear kba; have cba0 : wy.cell? ⟨ba, 0, none⟩ = some (.int .i64 (at_ l0 i).f0) := (blk_cell Bba.out 0).trans rfl; have cba1 : wy.cell? ⟨ba, 1, none⟩ = some (.int .i64 (at_ l0 i).f1) := (blk_cell Bba.out 1).trans rfl; have Bbb := kbb; clear kbb; have cbb0 : wy.cell? ⟨bb, 0, none⟩ = some (.int .i64 (at_ l0 im).f0) := (blk_cell Bbb.out 0).trans rfl; have cbb1 : wy.cell? ⟨bb, 1, none⟩ = some (.int .i64 (at_ l0 im).f1) := (blk_cell Bbb.out 1).trans rfl; have Bbc := kbc; clear kbc; have cbc0 : wy.cell? ⟨bc, 0, none⟩ = some (.int .i64 (at_ l0 j).f0) := (blk_cell Bbc.out 0).trans rfl; have cbc1 : wy.cell? ⟨bc, 1, none⟩ = some (.int .i64 (at_ l0 j).f1) := (blk_cell Bbc.out 1).trans rfl; have Bbd := kbd; clear kbd; have cbd0 : wy.cell? ⟨bd, 0, none⟩ = some (.int .i64 (at_ l0 jm).f0) := (blk_cell Bbd.out 0).trans rfl; have cbd1 : wy.cell? ⟨bd, 1, none⟩ = some (.int .i64 (at_ l0 jm).f1) := (blk_cell Bbd.out 1).trans rfl))
                    go_roundg k1
                    case measure => omega
                    case rel => exact ⟨j + 1, by simp, ⟨by omega, by omega, by omega⟩, ⟨fun k' h1 h2 => by rcases Nat.lt_or_eq_of_le (Nat.le_of_lt_succ h1) with h | rfl; exact HM.out k' h h2; exact HBAD⟩, ⟨by exact HB.out⟩⟩
                  · refine Halted.intro ?_; go_wp2_with (first | ((with_reducible refine gate_dst (N := 85) rfl ?_); rw [HTJ.out]) | (go_at_call 50; with_reducible refine (spec_l2On.calls (at_ l0 i).f0 (at_ l0 i).f1 (at_ l0 im).f0 (at_ l0 im).f1 (at_ l0 jm).f0 (at_ l0 jm).f1 _ _ F1.out).mono ?_; rintro e wz ⟨rfl, hb⟩; have n1 := Aside0.mk (below_step HB.out hb); have kba := Aside0.mk (blk_below Bba.out hb); have kbb := Aside0.mk (blk_below Bbb.out hb); have kbc := Aside0.mk (blk_below Bbc.out hb); have kbd := Aside0.mk (blk_below Bbd.out hb); clear HB Bba Bbb Bbc Bbd cba0 cba1 cbb0 cbb1 cbc0 cbc1 cbd0 cbd1; have HB := n1; clear n1 hb; have Bba := kba; clear kba; have cba0 : wz.cell? ⟨ba, 0, none⟩ = some (.int .i64 (at_ l0 i).f0) := (blk_cell Bba.out 0).trans rfl; have cba1 : wz.cell? ⟨ba, 1, none⟩ = some (.int .i64 (at_ l0 i).f1) := (blk_cell Bba.out 1).trans rfl; have Bbb := kbb; clear kbb; have cbb0 : wz.cell? ⟨bb, 0, none⟩ = some (.int .i64 (at_ l0 im).f0) := (blk_cell Bbb.out 0).trans rfl; have cbb1 : wz.cell? ⟨bb, 1, none⟩ = some (.int .i64 (at_ l0 im).f1) := (blk_cell Bbb.out 1).trans rfl; have Bbc := kbc; clear kbc; have cbc0 : wz.cell? ⟨bc, 0, none⟩ = some (.int .i64 (at_ l0 j).f0) := (blk_cell Bbc.out 0).trans rfl; have cbc1 : wz.cell? ⟨bc, 1, none⟩ = some (.int .i64 (at_ l0 j).f1) := (blk_cell Bbc.out 1).trans rfl; have Bbd := kbd; clear kbd; have cbd0 : wz.cell? ⟨bd, 0, none⟩ = some (.int .i64 (at_ l0 jm).f0) := (blk_cell Bbd.out 0).trans rfl; have cbd1 : wz.cell? ⟨bd, 1, none⟩ = some (.int .i64 (at_ l0 jm).f1) := (blk_cell Bbd.out 1).trans rfl) | (go_at_call 50; with_reducible refine (spec_l2On.calls (at_ l0 j).f0 (at_ l0 j).f1 (at_ l0 jm).f0 (at_ l0 jm).f1 (at_ l0 i).f0 (at_ l0 i).f1 _ _ F2.out).mono ?_; rintro e wy ⟨rfl, hb⟩; have n1 := Aside0.mk (below_step HB.out hb); have kba := Aside0.mk (blk_below Bba.out hb); have kbb := Aside0.mk (blk_below Bbb.out hb); have kbc := Aside0.mk (blk_below Bbc.out hb); have kbd := Aside0.mk (blk_below Bbd.out hb); clear HB Bba Bbb Bbc Bbd cba0 cba1 cbb0 cbb1 cbc0 cbc1 cbd0 cbd1; have HB := n1; clear n1 hb; have Bba := kba; clear kba; have cba0 : wy.cell? ⟨ba, 0, none⟩ = some (.int .i64 (at_ l0 i).f0) := (blk_cell Bba.out 0).trans rfl; have cba1 : wy.cell? ⟨ba, 1, none⟩ = some (.int .i64 (at_ l0 i).f1) := (blk_cell Bba.out 1).trans rfl; have Bbb := kbb; clear kbb; have cbb0 : wy.cell? ⟨bb, 0, none⟩ = some (.int .i64 (at_ l0 im).f0) := (blk_cell Bbb.out 0).trans rfl; have cbb1 : wy.cell? ⟨bb, 1, none⟩ = some (.int .i64 (at_ l0 im).f1) := (blk_cell Bbb.out 1).trans rfl; have Bbc := kbc; clear kbc; have cbc0 : wy.cell? ⟨bc, 0, none⟩ = some (.int .i64 (at_ l0 j).f0) := (blk_cell Bbc.out 0).trans rfl; have cbc1 : wy.cell? ⟨bc, 1, none⟩ = some (.int .i64 (at_ l0 j).f1) := (blk_cell Bbc.out 1).trans rfl; have Bbd := kbd; clear kbd; have cbd0 : wy.cell? ⟨bd, 0, none⟩ = some (.int .i64 (at_ l0 jm).f0) := (blk_cell Bbd.out 0).trans rfl; have cbd1 : wy.cell? ⟨bd, 1, none⟩ = some (.int .i64 (at_ l0 jm).f1) := (blk_cell Bbd.out 1).trans rfl))
                    go_ret
                    exact ⟨qq62, by exact HB.out⟩
                · refine Halted.intro ?_; go_wp2_with (first | ((with_reducible refine gate_dst (N := 85) rfl ?_); rw [HTJ.out]) | (go_at_call 50; with_reducible refine (spec_l2On.calls (at_ l0 i).f0 (at_ l0 i).f1 (at_ l0 im).f0 (at_ l0 im).f1 (at_ l0 jm).f0 (at_ l0 jm).f1 _ _ F1.out).mono ?_; rintro e wz ⟨rfl, hb⟩; have n1 := Aside0.mk (below_step HB.out hb); have kba := Aside0.mk (blk_below Bba.out hb); have kbb := Aside0.mk (blk_below Bbb.out hb); have kbc := Aside0.mk (blk_below Bbc.out hb); have kbd := Aside0.mk (blk_below Bbd.out hb); clear HB Bba Bbb Bbc Bbd cba0 cba1 cbb0 cbb1 cbc0 cbc1 cbd0 cbd1; have HB := n1; clear n1 hb; have Bba := kba; clear kba; have cba0 : wz.cell? ⟨ba, 0, none⟩ = some (.int .i64 (at_ l0 i).f0) := (blk_cell Bba.out 0).trans rfl; have cba1 : wz.cell? ⟨ba, 1, none⟩ = some (.int .i64 (at_ l0 i).f1) := (blk_cell Bba.out 1).trans rfl; have Bbb := kbb; clear kbb; have cbb0 : wz.cell? ⟨bb, 0, none⟩ = some (.int .i64 (at_ l0 im).f0) := (blk_cell Bbb.out 0).trans rfl; have cbb1 : wz.cell? ⟨bb, 1, none⟩ = some (.int .i64 (at_ l0 im).f1) := (blk_cell Bbb.out 1).trans rfl; have Bbc := kbc; clear kbc; have cbc0 : wz.cell? ⟨bc, 0, none⟩ = some (.int .i64 (at_ l0 j).f0) := (blk_cell Bbc.out 0).trans rfl; have cbc1 : wz.cell? ⟨bc, 1, none⟩ = some (.int .i64 (at_ l0 j).f1) := (blk_cell Bbc.out 1).trans rfl; have Bbd := kbd; clear kbd; have cbd0 : wz.cell? ⟨bd, 0, none⟩ = some (.int .i64 (at_ l0 jm).f0) := (blk_cell Bbd.out 0).trans rfl; have cbd1 : wz.cell? ⟨bd, 1, none⟩ = some (.int .i64 (at_ l0 jm).f1) := (blk_cell Bbd.out 1).trans rfl))
                  go_ret
                  exact ⟨qq62, by exact HB.out⟩
              · refine Halted.intro ?_; go_wp2_with (first | ((with_reducible refine gate_dst (N := 85) rfl ?_); rw [HTJ.out]))
                go_ret
                exact ⟨qq62, by exact HB.out⟩
            · refine Halted.intro ?_; go_wp2_with (first | ((with_reducible refine gate_dst (N := 85) rfl ?_); rw [HTJ.out]))
              go_ret
              exact ⟨qq62, by exact HB.out⟩
          by_cases hc2 : jm = i
          · skip
            have hk0 : ¬ (j : Int) = (i : Int) + 1 := fun h => hc1 (Int.ofNat.inj h)
            have hk1 : ((j : Int) == (i : Int) + 1) = false := beq_eq_false_iff_ne.mpr hk0
            have hk2 : ((jm : Int) == (i : Int)) = true := by rw [hc2]; exact beq_self_eq_true _
            obtain ⟨b1, hb1⟩ : ∃ b, onPt (at_ l0 j) (at_ l0 jm) (at_ l0 im) = b := ⟨_, rfl⟩
            obtain ⟨b2, hb2⟩ : ∃ b, onPt (at_ l0 i) (at_ l0 im) (at_ l0 j) = b := ⟨_, rfl⟩
            have F1 := Aside0.mk ((on_f (pv_at hcv hj) (pv_at hcv hjm1) (pv_at hcv him1)).trans (congrArg some hb1))
            have F2 := Aside0.mk ((on_f (pv_at hcv hi) (pv_at hcv him1) (pv_at hcv hj)).trans (congrArg some hb2))
            have HBAD : badAt l0 i j = (b1 || b2) := by unfold badAt nxt; rw [if_neg hc1, hjm, if_pos hc2, him, hb1, hb2]
            have HCV := Aside0.mk hcv
            clear hcv him hjm hb1 hb2 hc2
            cases b1
            · cases b2
              · refine Halted.intro ?_; go_wp2_with (first | ((with_reducible refine gate_dst (N := 85) rfl ?_); rw [HTJ.out]) | (go_at_call 50; with_reducible refine (spec_l2On.calls (at_ l0 j).f0 (at_ l0 j).f1 (at_ l0 jm).f0 (at_ l0 jm).f1 (at_ l0 im).f0 (at_ l0 im).f1 _ _ F1.out).mono ?_; rintro e wz ⟨rfl, hb⟩; have n1 := Aside0.mk (below_step HB.out hb); have kba := Aside0.mk (blk_below Bba.out hb); have kbb := Aside0.mk (blk_below Bbb.out hb); have kbc := Aside0.mk (blk_below Bbc.out hb); have kbd := Aside0.mk (blk_below Bbd.out hb); clear HB Bba Bbb Bbc Bbd cba0 cba1 cbb0 cbb1 cbc0 cbc1 cbd0 cbd1; have HB := n1; clear n1 hb; have Bba := kba; clear kba; have cba0 : wz.cell? ⟨ba, 0, none⟩ = some (.int .i64 (at_ l0 i).f0) := (blk_cell Bba.out 0).trans rfl; have cba1 : wz.cell? ⟨ba, 1, none⟩ = some (.int .i64 (at_ l0 i).f1) := (blk_cell Bba.out 1).trans rfl; have Bbb := kbb; clear kbb; have cbb0 : wz.cell? ⟨bb, 0, none⟩ = some (.int .i64 (at_ l0 im).f0) := (blk_cell Bbb.out 0).trans rfl; have cbb1 : wz.cell? ⟨bb, 1, none⟩ = some (.int .i64 (at_ l0 im).f1) := (blk_cell Bbb.out 1).trans rfl; have Bbc := kbc; clear kbc; have cbc0 : wz.cell? ⟨bc, 0, none⟩ = some (.int .i64 (at_ l0 j).f0) := (blk_cell Bbc.out 0).trans rfl; have cbc1 : wz.cell? ⟨bc, 1, none⟩ = some (.int .i64 (at_ l0 j).f1) := (blk_cell Bbc.out 1).trans rfl; have Bbd := kbd; clear kbd; have cbd0 : wz.cell? ⟨bd, 0, none⟩ = some (.int .i64 (at_ l0 jm).f0) := (blk_cell Bbd.out 0).trans rfl; have cbd1 : wz.cell? ⟨bd, 1, none⟩ = some (.int .i64 (at_ l0 jm).f1) := (blk_cell Bbd.out 1).trans rfl) | (go_at_call 50; with_reducible refine (spec_l2On.calls (at_ l0 i).f0 (at_ l0 i).f1 (at_ l0 im).f0 (at_ l0 im).f1 (at_ l0 j).f0 (at_ l0 j).f1 _ _ F2.out).mono ?_; rintro e wy ⟨rfl, hb⟩; have n1 := Aside0.mk (below_step HB.out hb); have kba := Aside0.mk (blk_below Bba.out hb); have kbb := Aside0.mk (blk_below Bbb.out hb); have kbc := Aside0.mk (blk_below Bbc.out hb); have kbd := Aside0.mk (blk_below Bbd.out hb); clear HB Bba Bbb Bbc Bbd cba0 cba1 cbb0 cbb1 cbc0 cbc1 cbd0 cbd1; have HB := n1; clear n1 hb; have Bba := kba; clear kba; have cba0 : wy.cell? ⟨ba, 0, none⟩ = some (.int .i64 (at_ l0 i).f0) := (blk_cell Bba.out 0).trans rfl; have cba1 : wy.cell? ⟨ba, 1, none⟩ = some (.int .i64 (at_ l0 i).f1) := (blk_cell Bba.out 1).trans rfl; have Bbb := kbb; clear kbb; have cbb0 : wy.cell? ⟨bb, 0, none⟩ = some (.int .i64 (at_ l0 im).f0) := (blk_cell Bbb.out 0).trans rfl; have cbb1 : wy.cell? ⟨bb, 1, none⟩ = some (.int .i64 (at_ l0 im).f1) := (blk_cell Bbb.out 1).trans rfl; have Bbc := kbc; clear kbc; have cbc0 : wy.cell? ⟨bc, 0, none⟩ = some (.int .i64 (at_ l0 j).f0) := (blk_cell Bbc.out 0).trans rfl; have cbc1 : wy.cell? ⟨bc, 1, none⟩ = some (.int .i64 (at_ l0 j).f1) := (blk_cell Bbc.out 1).trans rfl; have Bbd := kbd; clear kbd; have cbd0 : wy.cell? ⟨bd, 0, none⟩ = some (.int .i64 (at_ l0 jm).f0) := (blk_cell Bbd.out 0).trans rfl; have cbd1 : wy.cell? ⟨bd, 1, none⟩ = some (.int .i64 (at_ l0 jm).f1) := (blk_cell Bbd.out 1).trans rfl))
                go_roundg k1
                case measure => omega
                case rel => exact ⟨j + 1, by simp, ⟨by omega, by omega, by omega⟩, ⟨fun k' h1 h2 => by rcases Nat.lt_or_eq_of_le (Nat.le_of_lt_succ h1) with h | rfl; exact HM.out k' h h2; exact HBAD⟩, ⟨by exact HB.out⟩⟩
              · refine Halted.intro ?_; go_wp2_with (first | ((with_reducible refine gate_dst (N := 85) rfl ?_); rw [HTJ.out]) | (go_at_call 50; with_reducible refine (spec_l2On.calls (at_ l0 j).f0 (at_ l0 j).f1 (at_ l0 jm).f0 (at_ l0 jm).f1 (at_ l0 im).f0 (at_ l0 im).f1 _ _ F1.out).mono ?_; rintro e wz ⟨rfl, hb⟩; have n1 := Aside0.mk (below_step HB.out hb); have kba := Aside0.mk (blk_below Bba.out hb); have kbb := Aside0.mk (blk_below Bbb.out hb); have kbc := Aside0.mk (blk_below Bbc.out hb); have kbd := Aside0.mk (blk_below Bbd.out hb); clear HB Bba Bbb Bbc Bbd cba0 cba1 cbb0 cbb1 cbc0 cbc1 cbd0 cbd1; have HB := n1; clear n1 hb; have Bba := kba; clear kba; have cba0 : wz.cell? ⟨ba, 0, none⟩ = some (.int .i64 (at_ l0 i).f0) := (blk_cell Bba.out 0).trans rfl; have cba1 : wz.cell? ⟨ba, 1, none⟩ = some (.int .i64 (at_ l0 i).f1) := (blk_cell Bba.out 1).trans rfl; have Bbb := kbb; clear kbb; have cbb0 : wz.cell? ⟨bb, 0, none⟩ = some (.int .i64 (at_ l0 im).f0) := (blk_cell Bbb.out 0).trans rfl; have cbb1 : wz.cell? ⟨bb, 1, none⟩ = some (.int .i64 (at_ l0 im).f1) := (blk_cell Bbb.out 1).trans rfl; have Bbc := kbc; clear kbc; have cbc0 : wz.cell? ⟨bc, 0, none⟩ = some (.int .i64 (at_ l0 j).f0) := (blk_cell Bbc.out 0).trans rfl; have cbc1 : wz.cell? ⟨bc, 1, none⟩ = some (.int .i64 (at_ l0 j).f1) := (blk_cell Bbc.out 1).trans rfl; have Bbd := kbd; clear kbd; have cbd0 : wz.cell? ⟨bd, 0, none⟩ = some (.int .i64 (at_ l0 jm).f0) := (blk_cell Bbd.out 0).trans rfl; have cbd1 : wz.cell? ⟨bd, 1, none⟩ = some (.int .i64 (at_ l0 jm).f1) := (blk_cell Bbd.out 1).trans rfl) | (go_at_call 50; with_reducible refine (spec_l2On.calls (at_ l0 i).f0 (at_ l0 i).f1 (at_ l0 im).f0 (at_ l0 im).f1 (at_ l0 j).f0 (at_ l0 j).f1 _ _ F2.out).mono ?_; rintro e wy ⟨rfl, hb⟩; have n1 := Aside0.mk (below_step HB.out hb); have kba := Aside0.mk (blk_below Bba.out hb); have kbb := Aside0.mk (blk_below Bbb.out hb); have kbc := Aside0.mk (blk_below Bbc.out hb); have kbd := Aside0.mk (blk_below Bbd.out hb); clear HB Bba Bbb Bbc Bbd cba0 cba1 cbb0 cbb1 cbc0 cbc1 cbd0 cbd1; have HB := n1; clear n1 hb; have Bba := kba; clear kba; have cba0 : wy.cell? ⟨ba, 0, none⟩ = some (.int .i64 (at_ l0 i).f0) := (blk_cell Bba.out 0).trans rfl; have cba1 : wy.cell? ⟨ba, 1, none⟩ = some (.int .i64 (at_ l0 i).f1) := (blk_cell Bba.out 1).trans rfl; have Bbb := kbb; clear kbb; have cbb0 : wy.cell? ⟨bb, 0, none⟩ = some (.int .i64 (at_ l0 im).f0) := (blk_cell Bbb.out 0).trans rfl; have cbb1 : wy.cell? ⟨bb, 1, none⟩ = some (.int .i64 (at_ l0 im).f1) := (blk_cell Bbb.out 1).trans rfl; have Bbc := kbc; clear kbc; have cbc0 : wy.cell? ⟨bc, 0, none⟩ = some (.int .i64 (at_ l0 j).f0) := (blk_cell Bbc.out 0).trans rfl; have cbc1 : wy.cell? ⟨bc, 1, none⟩ = some (.int .i64 (at_ l0 j).f1) := (blk_cell Bbc.out 1).trans rfl; have Bbd := kbd; clear kbd; have cbd0 : wy.cell? ⟨bd, 0, none⟩ = some (.int .i64 (at_ l0 jm).f0) := (blk_cell Bbd.out 0).trans rfl; have cbd1 : wy.cell? ⟨bd, 1, none⟩ = some (.int .i64 (at_ l0 jm).f1) := (blk_cell Bbd.out 1).trans rfl))
                go_ret
                exact ⟨qq62, by exact HB.out⟩
            · refine Halted.intro ?_; go_wp2_with (first | ((with_reducible refine gate_dst (N := 85) rfl ?_); rw [HTJ.out]) | (go_at_call 50; with_reducible refine (spec_l2On.calls (at_ l0 j).f0 (at_ l0 j).f1 (at_ l0 jm).f0 (at_ l0 jm).f1 (at_ l0 im).f0 (at_ l0 im).f1 _ _ F1.out).mono ?_; rintro e wz ⟨rfl, hb⟩; have n1 := Aside0.mk (below_step HB.out hb); have kba := Aside0.mk (blk_below Bba.out hb); have kbb := Aside0.mk (blk_below Bbb.out hb); have kbc := Aside0.mk (blk_below Bbc.out hb); have kbd := Aside0.mk (blk_below Bbd.out hb); clear HB Bba Bbb Bbc Bbd cba0 cba1 cbb0 cbb1 cbc0 cbc1 cbd0 cbd1; have HB := n1; clear n1 hb; have Bba := kba; clear kba; have cba0 : wz.cell? ⟨ba, 0, none⟩ = some (.int .i64 (at_ l0 i).f0) := (blk_cell Bba.out 0).trans rfl; have cba1 : wz.cell? ⟨ba, 1, none⟩ = some (.int .i64 (at_ l0 i).f1) := (blk_cell Bba.out 1).trans rfl; have Bbb := kbb; clear kbb; have cbb0 : wz.cell? ⟨bb, 0, none⟩ = some (.int .i64 (at_ l0 im).f0) := (blk_cell Bbb.out 0).trans rfl; have cbb1 : wz.cell? ⟨bb, 1, none⟩ = some (.int .i64 (at_ l0 im).f1) := (blk_cell Bbb.out 1).trans rfl; have Bbc := kbc; clear kbc; have cbc0 : wz.cell? ⟨bc, 0, none⟩ = some (.int .i64 (at_ l0 j).f0) := (blk_cell Bbc.out 0).trans rfl; have cbc1 : wz.cell? ⟨bc, 1, none⟩ = some (.int .i64 (at_ l0 j).f1) := (blk_cell Bbc.out 1).trans rfl; have Bbd := kbd; clear kbd; have cbd0 : wz.cell? ⟨bd, 0, none⟩ = some (.int .i64 (at_ l0 jm).f0) := (blk_cell Bbd.out 0).trans rfl; have cbd1 : wz.cell? ⟨bd, 1, none⟩ = some (.int .i64 (at_ l0 jm).f1) := (blk_cell Bbd.out 1).trans rfl))
              go_ret
              exact ⟨qq62, by exact HB.out⟩
          have hk0 : ¬ (j : Int) = (i : Int) + 1 := fun h => hc1 (Int.ofNat.inj h)
          have hk1 : ((j : Int) == (i : Int) + 1) = false := beq_eq_false_iff_ne.mpr hk0
          have hk3 : ¬ (jm : Int) = (i : Int) := fun h => hc2 (Int.ofNat.inj h)
          have hk2 : ((jm : Int) == (i : Int)) = false := beq_eq_false_iff_ne.mpr hk3
          · skip
            obtain ⟨b, hb⟩ : ∃ b, meetPt (at_ l0 i) (at_ l0 im) (at_ l0 j) (at_ l0 jm) = b := ⟨_, rfl⟩
            have F := Aside0.mk ((meet_f (pv_at hcv hi) (pv_at hcv him1) (pv_at hcv hj) (pv_at hcv hjm1)).trans (congrArg some hb))
            have HBAD : badAt l0 i j = b := by unfold badAt nxt; rw [if_neg hc1, hjm, if_neg hc2, him, hb]
            have HCV := Aside0.mk hcv
            clear hcv him hjm hb
            cases b
            · refine Halted.intro ?_; go_wp2_with (first | ((with_reducible refine gate_dst (N := 85) rfl ?_); rw [HTJ.out]) | (go_at_call 51; with_reducible refine (spec_l31Meet.calls 1 (at_ l0 i).f0 (at_ l0 i).f1 (at_ l0 im).f0 (at_ l0 im).f1 (at_ l0 j).f0 (at_ l0 j).f1 (at_ l0 jm).f0 (at_ l0 jm).f1 _ _ F.out).mono ?_; rintro e wz ⟨rfl, hb⟩; have n1 := Aside0.mk (below_step HB.out hb); have kba := Aside0.mk (blk_below Bba.out hb); have kbb := Aside0.mk (blk_below Bbb.out hb); have kbc := Aside0.mk (blk_below Bbc.out hb); have kbd := Aside0.mk (blk_below Bbd.out hb); clear HB Bba Bbb Bbc Bbd cba0 cba1 cbb0 cbb1 cbc0 cbc1 cbd0 cbd1; have HB := n1; clear n1 hb; have Bba := kba; clear kba; have cba0 : wz.cell? ⟨ba, 0, none⟩ = some (.int .i64 (at_ l0 i).f0) := (blk_cell Bba.out 0).trans rfl; have cba1 : wz.cell? ⟨ba, 1, none⟩ = some (.int .i64 (at_ l0 i).f1) := (blk_cell Bba.out 1).trans rfl; have Bbb := kbb; clear kbb; have cbb0 : wz.cell? ⟨bb, 0, none⟩ = some (.int .i64 (at_ l0 im).f0) := (blk_cell Bbb.out 0).trans rfl; have cbb1 : wz.cell? ⟨bb, 1, none⟩ = some (.int .i64 (at_ l0 im).f1) := (blk_cell Bbb.out 1).trans rfl; have Bbc := kbc; clear kbc; have cbc0 : wz.cell? ⟨bc, 0, none⟩ = some (.int .i64 (at_ l0 j).f0) := (blk_cell Bbc.out 0).trans rfl; have cbc1 : wz.cell? ⟨bc, 1, none⟩ = some (.int .i64 (at_ l0 j).f1) := (blk_cell Bbc.out 1).trans rfl; have Bbd := kbd; clear kbd; have cbd0 : wz.cell? ⟨bd, 0, none⟩ = some (.int .i64 (at_ l0 jm).f0) := (blk_cell Bbd.out 0).trans rfl; have cbd1 : wz.cell? ⟨bd, 1, none⟩ = some (.int .i64 (at_ l0 jm).f1) := (blk_cell Bbd.out 1).trans rfl))
              go_roundg k1
              case measure => omega
              case rel => exact ⟨j + 1, by simp, ⟨by omega, by omega, by omega⟩, ⟨fun k' h1 h2 => by rcases Nat.lt_or_eq_of_le (Nat.le_of_lt_succ h1) with h | rfl; exact HM.out k' h h2; exact HBAD⟩, ⟨by exact HB.out⟩⟩
            · refine Halted.intro ?_; go_wp2_with (first | ((with_reducible refine gate_dst (N := 85) rfl ?_); rw [HTJ.out]) | (go_at_call 51; with_reducible refine (spec_l31Meet.calls 1 (at_ l0 i).f0 (at_ l0 i).f1 (at_ l0 im).f0 (at_ l0 im).f1 (at_ l0 j).f0 (at_ l0 j).f1 (at_ l0 jm).f0 (at_ l0 jm).f1 _ _ F.out).mono ?_; rintro e wz ⟨rfl, hb⟩; have n1 := Aside0.mk (below_step HB.out hb); have kba := Aside0.mk (blk_below Bba.out hb); have kbb := Aside0.mk (blk_below Bbb.out hb); have kbc := Aside0.mk (blk_below Bbc.out hb); have kbd := Aside0.mk (blk_below Bbd.out hb); clear HB Bba Bbb Bbc Bbd cba0 cba1 cbb0 cbb1 cbc0 cbc1 cbd0 cbd1; have HB := n1; clear n1 hb; have Bba := kba; clear kba; have cba0 : wz.cell? ⟨ba, 0, none⟩ = some (.int .i64 (at_ l0 i).f0) := (blk_cell Bba.out 0).trans rfl; have cba1 : wz.cell? ⟨ba, 1, none⟩ = some (.int .i64 (at_ l0 i).f1) := (blk_cell Bba.out 1).trans rfl; have Bbb := kbb; clear kbb; have cbb0 : wz.cell? ⟨bb, 0, none⟩ = some (.int .i64 (at_ l0 im).f0) := (blk_cell Bbb.out 0).trans rfl; have cbb1 : wz.cell? ⟨bb, 1, none⟩ = some (.int .i64 (at_ l0 im).f1) := (blk_cell Bbb.out 1).trans rfl; have Bbc := kbc; clear kbc; have cbc0 : wz.cell? ⟨bc, 0, none⟩ = some (.int .i64 (at_ l0 j).f0) := (blk_cell Bbc.out 0).trans rfl; have cbc1 : wz.cell? ⟨bc, 1, none⟩ = some (.int .i64 (at_ l0 j).f1) := (blk_cell Bbc.out 1).trans rfl; have Bbd := kbd; clear kbd; have cbd0 : wz.cell? ⟨bd, 0, none⟩ = some (.int .i64 (at_ l0 jm).f0) := (blk_cell Bbd.out 0).trans rfl; have cbd1 : wz.cell? ⟨bd, 1, none⟩ = some (.int .i64 (at_ l0 jm).f1) := (blk_cell Bbd.out 1).trans rfl))
              go_ret
              exact ⟨qq62, by exact HB.out⟩
        · have hd2 : decide ((j : Int) < (l0.length : Int)) = false := decide_eq_false (by omega)
          go_wp2
          go_roundg ko
          case measure => omega
          case rel => exact ⟨i + 1, by simp, ⟨by omega, by omega⟩, ⟨fun i' h1 k' h2 h3 => by rcases Nat.lt_or_eq_of_le (Nat.le_of_lt_succ h1) with h | rfl; exact HN.out i' h k' h2 h3; exact HM.out k' (by omega) h3⟩, ⟨by exact HB.out⟩⟩
    · have hd : decide ((i : Int) < (l0.length : Int)) = false := decide_eq_false (by omega)
      go_wp2
      go_ret
      have hp : pairsB l0 = true := decide_eq_true fun i' h1 k' h2 h3 => HN.out i' (by omega) k' h2 h3
      exact ⟨by rw [hp]; rfl, by exact HB.out⟩
set_option maxRecDepth 100000 in
set_option maxHeartbeats 4000000 in
theorem specValid_no (A0 : Option Addr) (c0 : Nat) (l0 : List Pt) (w : World) (hr0 : Kd.C k32 w A0 l0.length l0) (hc0 : l0.length ≤ c0) (hl : l0.length ≤ 1048576) (hcv : Pure.cvB l0 = false) :
    Calls Try.prog 19 #[.slice A0 l0.length c0] w fun e w' => e = .returned (.bool false) ∧ Below w.heap.size w w' := by
  have hpts := (Pure.l31Points_eq 1048577 l0 (by omega) (by omega)).trans (congrArg some hcv)
  have HR0 := Aside0.mk hr0
  have HC0 := Aside0.mk hc0
  have HX := Aside0.mk hpts
  clear hr0 hc0 hpts
  go_enter Try.func19, Try.ntmps19
  go_wp2_with (go_at_call 45; refine (spec_l31Points.calls 1048577 _ _ l0 false _ HR0.out HC0.out HX.out).mono ?_; rintro e w1 ⟨rfl, hb⟩; have HB := Aside0.mk hb; clear hb)
  go_ret
  exact ⟨rfl, by exact HB.out⟩
end Go.Proofs.Ytgdhgncdpmalcaa.Ring
namespace Go.Proofs.Ytgdhgncdpmalcaa.Ring
open Go.RowKit Go.Proofs.Ytgdhgncdpmalcaa.Q Go.Proofs.YtgdhgncdpmalcaaW.PrintWords Go.Proofs.YtgdhgncdpmalcaaW.PrintLast Go.Proofs.YtgdhgncdpmalcaaW.PrintMore
theorem onPt_self {p q : Pt} (hp : PVP p) (hq : PVP q) : onPt p q p = true := by
  unfold onPt Pure.onR
  refine decide_eq_true ⟨hp, hq, hp, ?_⟩
  unfold Pure.onP Pure.crs
  refine ⟨by simp, by omega, by omega, by omega, by omega⟩
theorem sameP_iff {p q : Pt} : sameP p q = true ↔ p.f0 = q.f0 ∧ p.f1 = q.f1 := by
  unfold sameP; rw [Bool.and_eq_true, beq_iff_eq, beq_iff_eq]
theorem sameP_comm (p q : Pt) : sameP p q = sameP q p := by
  rw [Bool.eq_iff_iff, sameP_iff, sameP_iff]
  exact ⟨fun h => ⟨h.1.symm, h.2.symm⟩, fun h => ⟨h.1.symm, h.2.symm⟩⟩
theorem meetPt_comm (a b c d : Pt) : meetPt a b c d = meetPt c d a b := by
  unfold meetPt
  rw [Bool.and_comm (decide (sgnP a b c * sgnP a b d < 0))]
  cases onPt a b c <;> cases onPt a b d <;> cases onPt c d a <;> cases onPt c d b <;> rfl
theorem meet_same {a b c d : Pt} (ha : PVP a) (hb : PVP b) (h : sameP c a = true) : meetPt a b c d = true := by
  have e := sameP_iff.1 h
  have : onPt a b c = true := by
    have := onPt_self ha hb
    unfold onPt at this ⊢
    rw [e.1, e.2]; exact this
  unfold meetPt; rw [this]; rfl
theorem mod_in {a n : Nat} (h : a < n) : a % n = a := Nat.mod_eq_of_lt h
theorem mod_out {a n : Nat} (h : n ≤ a) (h' : a < 2 * n) : a % n = a - n := by
  rw [Nat.mod_eq_sub_mod h, Nat.mod_eq_of_lt (by omega)]
theorem wrap_iff {i k n : Nat} (hk : k < n) (hik : i < k) : (k + 1) % n = i ↔ i = 0 ∧ k + 1 = n := by
  by_cases h : k + 1 < n
  · rw [mod_in h]; omega
  · rw [mod_out (by omega) (by omega)]; omega
theorem bad_next {l : List Pt} {i : Nat} (h : i + 1 < l.length) : badAt l i (i + 1) = (sameP (at_ l (i + 1)) (at_ l i) || sameP (nxt l (i + 1)) (at_ l (i + 1)) || foldAt l i) := by
  unfold badAt
  rw [if_pos rfl]
  have e : nxt l i = at_ l (i + 1) := by unfold nxt; rw [mod_in h]
  unfold foldAt
  rw [e, mod_in h, Bool.or_assoc (_ || _)]
theorem bad_wrap {l : List Pt} (h : 3 ≤ l.length) : badAt l 0 (l.length - 1) = foldAt l (l.length - 1) := by
  unfold badAt
  have e1 : (l.length - 1 + 1) % l.length = 0 := by rw [show l.length - 1 + 1 = l.length by omega, Nat.mod_self]
  rw [if_neg (by omega), if_pos e1]
  unfold foldAt
  rw [e1]
  have e : nxt l (l.length - 1) = at_ l 0 := by unfold nxt; rw [e1]
  rw [e]
theorem bad_far {l : List Pt} {i k : Nat} (hk : k < l.length) (h1 : i + 1 < k) (h2 : ¬ (i = 0 ∧ k + 1 = l.length)) : badAt l i k = meetPt (at_ l i) (nxt l i) (at_ l k) (nxt l k) := by
  unfold badAt
  rw [if_neg (by omega), if_neg (fun c => h2 ((wrap_iff hk (by omega)).1 c))]
theorem simple_iff {l : List Pt} : simpleB l = true ↔ (∀ i, i < l.length → ∀ t, t < l.length - 1 → dupAt l i t = false) ∧ ∀ i, i < l.length → foldAt l i = false ∧ ∀ t, t < l.length - 3 → meetAt l i t = false := by
  unfold simpleB
  simp only [Bool.and_eq_true, List.all_eq_true, List.mem_range, Bool.not_eq_true']
theorem pairs_simple {l : List Pt} (hv : Pure.cvB l = true) : pairsB l = simpleB l := by
  have hn := (Pure.cvB_iff.1 hv).1.1
  have pv : ∀ j, j < l.length → PVP (at_ l j) := fun j hj => pv_at hv hj
  have pn : ∀ j, j < l.length → PVP (nxt l j) := fun j hj => pv_at hv (Nat.mod_lt _ (by omega))
  rw [Bool.eq_iff_iff, simple_iff]
  unfold pairsB
  rw [decide_eq_true_eq]
  constructor
  · intro H
    have hnext : ∀ i, i + 1 < l.length → sameP (at_ l (i + 1)) (at_ l i) = false ∧ sameP (nxt l (i + 1)) (at_ l (i + 1)) = false ∧ foldAt l i = false := by
      intro i hi
      have := H i (by omega) (i + 1) hi (by omega)
      rw [bad_next hi, Bool.or_eq_false_iff, Bool.or_eq_false_iff] at this
      exact ⟨this.1.1, this.1.2, this.2⟩
    have hlast : sameP (at_ l 0) (at_ l (l.length - 1)) = false := by
      have := (hnext (l.length - 2) (by omega)).2.1
      rw [show l.length - 2 + 1 = l.length - 1 by omega] at this
      unfold nxt at this
      rw [show l.length - 1 + 1 = l.length by omega, Nat.mod_self] at this
      exact this
    have hdist : ∀ i k, i < k → k < l.length → sameP (at_ l k) (at_ l i) = false := by
      intro i k hik hk
      by_cases h1 : k = i + 1
      · subst h1; exact (hnext i hk).1
      · by_cases h2 : i = 0 ∧ k + 1 = l.length
        · obtain ⟨rfl, h2⟩ := h2
          rw [show k = l.length - 1 by omega, sameP_comm]; exact hlast
        · have := H i (by omega) k hk hik
          rw [bad_far hk (by omega) h2] at this
          apply Bool.eq_false_iff.2
          intro c
          rw [meet_same (pv i (by omega)) (pn i (by omega)) c] at this
          exact absurd this (by decide)
    refine ⟨fun i hi t ht => ?_, fun i hi => ⟨?_, fun t ht => ?_⟩⟩
    · unfold dupAt
      by_cases h : i + 1 + t < l.length
      · rw [mod_in h]; exact hdist i _ (by omega) h
      · rw [mod_out (by omega) (by omega), sameP_comm]; exact hdist _ i (by omega) hi
    · by_cases h : i + 1 < l.length
      · exact (hnext i h).2.2
      · have := H 0 (by omega) (l.length - 1) (by omega) (by omega)
        rw [bad_wrap hn] at this
        rw [show i = l.length - 1 by omega]; exact this
    · unfold meetAt
      by_cases h : i + 2 + t < l.length
      · rw [mod_in h]
        have := H i hi (i + 2 + t) h (by omega)
        rwa [bad_far h (by omega) (by omega)] at this
      · rw [mod_out (by omega) (by omega), meetPt_comm]
        have := H (i + 2 + t - l.length) (by omega) i hi (by omega)
        rwa [bad_far hi (by omega) (by omega)] at this
  · rintro ⟨hd, hf⟩ i hi k hk hik
    by_cases h1 : k = i + 1
    · subst h1
      rw [bad_next hk, (hf i hi).1]
      have d1 := hd i hi 0 (by omega)
      have d2 := hd (i + 1) hk 0 (by omega)
      unfold dupAt at d1 d2
      rw [Nat.add_zero, mod_in hk] at d1
      rw [Nat.add_zero] at d2
      unfold nxt
      rw [d1, d2]; rfl
    · by_cases h2 : i = 0 ∧ k + 1 = l.length
      · obtain ⟨rfl, h2⟩ := h2
        rw [show k = l.length - 1 by omega, bad_wrap hn]
        exact (hf _ (by omega)).1
      · rw [bad_far hk (by omega) h2]
        have := (hf i hi).2 (k - i - 2) (by omega)
        unfold meetAt at this
        rwa [show i + 2 + (k - i - 2) = k by omega, mod_in hk] at this
/-- What the reference answers. -/
theorem specValid (A0 : Option Addr) (c0 : Nat) (l0 : List Pt) (w : World) (hr0 : Kd.C k32 w A0 l0.length l0) (hc0 : l0.length ≤ c0) (hl : l0.length ≤ 1048576) :
    Calls Try.prog 19 #[.slice A0 l0.length c0] w fun e w' => e = .returned (.bool (okS l0)) ∧ Below w.heap.size w w' := by
  unfold okS
  cases h : Pure.cvB l0
  · rw [Bool.false_and]; exact specValid_no A0 c0 l0 w hr0 hc0 hl h
  · rw [Bool.true_and, ← pairs_simple h]; exact specValid_yes A0 c0 l0 w hr0 hc0 h
end Go.Proofs.Ytgdhgncdpmalcaa.Ring
namespace Go.Proofs.Ytgdhgncdpmalcaa.Q
open Go.RowKit Go.Proofs.YtgdhgncdpmalcaaW.PrintWords Go.Proofs.YtgdhgncdpmalcaaW.PrintLast Go.Proofs.YtgdhgncdpmalcaaW.PrintMore
attribute [local go_sem] max2_int min2_int max_two min_two max_three min_three max_four min_four
set_option linter.unusedVariables false
set_option linter.unusedSimpArgs false

/-! ### spec_PolyValid: function 19 -/
def spec_PolyValid.f (l0 : List (S32)) : Option (Bool) := if l0.length ≤ 1048576 then some (Go.Proofs.Ytgdhgncdpmalcaa.Ring.okS l0) else none
theorem spec_PolyValid.calls (A0 : Option Addr) (c0 : Nat) (l0 : List (S32)) (r : Bool) (w : World) (hr0 : Kd.C k32 w A0 l0.length l0) (hc0 : l0.length ≤ c0) (h : spec_PolyValid.f l0 = some r) :
    Calls Try.prog 19 #[.slice A0 l0.length c0] w fun e w' => e = .returned (.bool r) ∧ Below w.heap.size w w' := by
  unfold spec_PolyValid.f at h
  by_cases c : l0.length ≤ 1048576
  · rw [if_pos c] at h
    obtain rfl := Option.some.inj h
    exact Go.Proofs.Ytgdhgncdpmalcaa.Ring.specValid A0 c0 l0 w hr0 hc0 c
  · rw [if_neg c] at h
    exact absurd h (by simp)

end Go.Proofs.Ytgdhgncdpmalcaa.Q
