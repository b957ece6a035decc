/- Part 5 of what the proof of this law rests on: the functions of the translation as plain Lean functions with their walks, and the plain laws behind. -/
import Derived.Test.YtmcfhmflncghiaaMFnLoopErrors4
namespace Go.Proofs.Ytmcfhmflncghiaa.Q
open Go.RowKit Go.Proofs.YtmcfhmflncghiaaW.PrintWords Go.Proofs.YtmcfhmflncghiaaW.PrintLast Go.Proofs.YtmcfhmflncghiaaW.PrintMore
attribute [local go_sem] max2_int min2_int max_two min_two max_three min_three max_four min_four
set_option linter.unusedVariables false
set_option linter.unusedSimpArgs false

/-! ### spec_l91Net: function 44 -/
mutual
def spec_l91Net.l0 : Nat → Int → List (S32) → Int → List Int → Int → Option (Int × (List (S32)) × Int)
  | 0, _, _, _, _, _ => none
  | k + 1, x6, x7, x8, x1000, x1001 => if x8 < x6 then ((spec_l6Rd_pick.f k x1000 x1001 12).bind fun bt109 => (if bt109.1 > 0 then ((spec_l6Rd_pick.f k x1000 bt109.2 x8).bind fun bt111 => ((spec_l6Rd_pick.f k x1000 bt111.2 61).bind fun bt113 => ((spec_l6Rd_pick.f k x1000 bt113.2 4).bind fun bt115 => (if x7.length < 4398046511104 then (spec_l91Net.l0 k x6 (x7 ++ [(⟨bt111.1, x8, wrap64 (bt113.1 - 30), wrap64 (1 + bt115.1)⟩ : S32)]) (wrap64 (x8 + 1)) x1000 bt115.2) else (none))))) else (spec_l91Net.l0 k x6 x7 (wrap64 (x8 + 1)) x1000 bt109.2))) else ((spec_l6Rd_pick.f k x1000 x1001 4).bind fun bt120 => (spec_l91Net.l1 k x6 x7 bt120.1 0 x1000 bt120.2))
def spec_l91Net.l1 : Nat → Int → List (S32) → Int → Int → List Int → Int → Option (Int × (List (S32)) × Int)
  | 0, _, _, _, _, _, _ => none
  | k + 1, x6, x7, x9, x10, x1000, x1001 => if x10 < x9 then ((spec_l6Rd_pick.f k x1000 x1001 x6).bind fun bt122 => ((spec_l6Rd_pick.f k x1000 bt122.2 (wrap64 (x6 - 1))).bind fun bt124 => (if x6 = 0 then (none) else ((spec_l6Rd_pick.f k x1000 bt124.2 61).bind fun bt126 => ((spec_l6Rd_pick.f k x1000 bt126.2 4).bind fun bt128 => (if x7.length < 4398046511104 then (spec_l91Net.l1 k x6 (x7 ++ [(⟨bt122.1, Int.tmod (wrap64 ((wrap64 (bt122.1 + 1)) + bt124.1)) x6, wrap64 (bt126.1 - 30), wrap64 (1 + bt128.1)⟩ : S32)]) x9 (wrap64 (x10 + 1)) x1000 bt128.2) else (none))))))) else (spec_l91Net.l2 k x6 x7 0 x1000 x1001)
def spec_l91Net.l2 : Nat → Int → List (S32) → Int → List Int → Int → Option (Int × (List (S32)) × Int)
  | 0, _, _, _, _, _ => none
  | k + 1, x6, x7, x13, x1000, x1001 => if x13 < (x7.length : Int) then ((spec_l6Rd_pick.f k x1000 x1001 3).bind fun bt133 => (if bt133.1 = 0 then (if 0 ≤ x13 then (spec_l91Net.l2 k x6 (x7.set (x13 : Int).toNat (⟨(rd_T32 x7 x13).f1, (rd_T32 x7 x13).f0, wrap64 (-((rd_T32 x7 x13).f2)), (rd_T32 x7 x13).f3⟩ : S32)) (wrap64 (x13 + 1)) x1000 bt133.2) else (none)) else (spec_l91Net.l2 k x6 x7 (wrap64 (x13 + 1)) x1000 bt133.2))) else (if (x7.length : Int) > 1 then ((spec_l6Rd_pick.f k x1000 x1001 (x7.length : Int)).bind fun bt138 => (if 0 < (x7.length : Int) then (if 0 ≤ bt138.1 then (if bt138.1 < (x7.length : Int) then (spec_l91Net.j3 k x6 ((x7.set (0 : Int).toNat (⟨(rd_T32 x7 bt138.1).f0, (rd_T32 x7 bt138.1).f1, (rd_T32 x7 bt138.1).f2, (rd_T32 x7 bt138.1).f3⟩ : S32)).set (bt138.1 : Int).toNat (⟨(rd_T32 x7 0).f0, (rd_T32 x7 0).f1, (rd_T32 x7 0).f2, (rd_T32 x7 0).f3⟩ : S32)) x1000 bt138.2) else (none)) else (none)) else (none))) else (spec_l91Net.j3 k x6 x7 x1000 x1001))
def spec_l91Net.j3 : Nat → Int → List (S32) → List Int → Int → Option (Int × (List (S32)) × Int)
  | 0, _, _, _, _ => none
  | k + 1, x6, x7, x1000, x1001 => if (x7.length : Int) > 0 then ((spec_l6Rd_pick.f k x1000 x1001 50).bind fun bt145 => (if bt145.1 = 0 then (if 0 < (x7.length : Int) then (some (x6, (x7.set (0 : Int).toNat (⟨(rd_T32 x7 0).f0, (rd_T32 x7 0).f0, (rd_T32 x7 0).f2, (rd_T32 x7 0).f3⟩ : S32)), bt145.2)) else (none)) else (if bt145.1 = 1 then ((some (([0, 10] : List Int) : List Int)).bind fun y149 => ((spec_l6Rd_pick.f k x1000 bt145.2 2).bind fun bt152 => (if 0 ≤ bt152.1 then (if bt152.1 < (y149.length : Int) then (if 0 < (x7.length : Int) then (some (x6, (x7.set (0 : Int).toNat (⟨(rd_T32 x7 0).f0, (rd_T32 x7 0).f1, (rd_T32 x7 0).f2, rd y149 bt152.1⟩ : S32)), bt152.2)) else (none)) else (none)) else (none)))) else (if bt145.1 = 2 then (if 0 < (x7.length : Int) then (some (x6, (x7.set (0 : Int).toNat (⟨(rd_T32 x7 0).f0, (rd_T32 x7 0).f1, 100001, (rd_T32 x7 0).f3⟩ : S32)), bt145.2)) else (none)) else (if bt145.1 = 3 then (if 0 < (x7.length : Int) then (some (x6, (x7.set (0 : Int).toNat (⟨(rd_T32 x7 0).f0, x6, (rd_T32 x7 0).f2, (rd_T32 x7 0).f3⟩ : S32)), bt145.2)) else (none)) else (some (x6, x7, bt145.2))))))) else (some (x6, x7, x1001))
end
def spec_l91Net.f (k : Nat) (s0_0 : List Int) (s0_1 : Int) (a1 : Int) : Option (Int × (List (S32)) × Int) := (spec_l6Rd_pick.f k s0_0 s0_1 (wrap64 (a1 - 1))).bind fun bt104 => (spec_l91Net.l0 k (wrap64 (2 + bt104.1)) (([] : List (S32))) 1 s0_0 bt104.2)
set_option maxHeartbeats 8000000 in
set_option maxRecDepth 100000 in
theorem spec_l91Net.calls (k : Nat) (g : Nat) (s0_0 : List Int) (s0_1 : Int) (a1 : Int) (r1 : Int) (r2 : List (S32)) (r3 : Int) (w0 w : World) (hI : IsS61 w0 w g s0_0 s0_1) (hB : Below w0.heap.size w0 w) (h : spec_l91Net.f k s0_0 s0_1 a1 = some (r1, r2, r3)) :
    Calls Try.prog 44 #[.pointer (some ⟨g, 0, none⟩), .int .i64 a1] w fun e w' => ∃ v1_ : Value, e = .returned (.tuple #[.int .i64 r1, v1_]) ∧ Kd.R k32 32 w' w.heap.size (fun _ => True) v1_ r2 ∧ IsS61 w0 w' g s0_0 r3 ∧ Below w0.heap.size w0 w' ∧ KeepBut w w' g none := by
  have hu32 := Try.underlying32
  have HI0 := Aside0.mk hI
  have HK := Aside0.mk (KeepBut.refl w g none)
  have HL := Aside0.mk hB.size
  clear hI
  have HW0 := Aside0.mk hB.size
  have HB := Aside0.mk hB
  clear hB
  have H : ((spec_l6Rd_pick.f k s0_0 s0_1 (wrap64 (a1 - 1))).bind fun bt104 => (spec_l91Net.l0 k (wrap64 (2 + bt104.1)) (([] : List (S32))) 1 s0_0 bt104.2)) = some (r1, r2, r3) := h
  clear h
  replace H := Option.bind_eq_some_iff.mp H
  obtain ⟨⟨t104, t105⟩, A30, H⟩ := H
  replace H : (spec_l91Net.l0 k (wrap64 (2 + t104)) (([] : List (S32))) 1 s0_0 t105) = some (r1, r2, r3) := H
  have A3 := Aside0.mk A30
  clear A30
  obtain ⟨y106, hy106⟩ : ∃ y_ : List (S32), y_ = (([] : List (S32))) := ⟨_, rfl⟩
  replace H : (spec_l91Net.l0 k (wrap64 (2 + t104)) y106 1 s0_0 t105) = some (r1, r2, r3) := by first | (rw [hy106]; with_reducible exact H) | (have H2_ := (Option.bind_some _ _).symm.trans H; rw [hy106]; with_reducible exact H2_) | (have H2_ := (Option.bind_some _ _).symm.trans H; with_reducible exact H2_) | with_reducible exact H | (rw [hy106]; exact H) | exact H
  have Ny106 := Aside0.mk hy106
  clear hy106
  have H' := Aside0.mk H
  clear H
  go_enter Try.func44, Try.ntmps44
  go_wp2_with (first | ((with_reducible refine gate_callee (f := 36) rfl ?_); refine goesL_ (some 20) rfl rfl Try.func36 (by kernel_rfl) rfl #[.pointer (some ⟨g, 0, none⟩), .int .i64 (wrap64 (a1 - 1))] rfl qq5 ?_; (with_reducible refine (spec_l6Rd_pick.calls k g s0_0 s0_1 (wrap64 (a1 - 1)) t104 t105 w0 _ ?side1 ?side2 A3.out).mono ?_); (case side1 => exact qq9); (case side2 => exact qq8); rintro e w4 ⟨rfl, hi, hb, hk⟩; refine ⟨_, rfl, ?_⟩; have n0_ := Aside0.mk (KeepBut.trans qq6 hk (.inl rfl)); have n1_ := Aside0.mk (hb); have n2_ := Aside0.mk (hi); clear HK; clear HB; clear HI0; have HK := n0_; have HB := n1_; have HI0 := n2_; clear n0_ n1_ n2_; (try clear hb); (try clear hb2); (try clear hk); (try clear hi)) | ((with_reducible refine gate_dst (N := 22) rfl ?_); refine Kd.R_lit k32 _ 32 ?hg (N := 22) ?hd (xs := ([] : List (S32))) (inner := []) (ok := fun _ => True) (okp := fun _ => True) ?hr ?hp (fun _ hk => hk) trivial (Below.refl _ _) (Nat.le_refl _) (by simp) ?_; (case hd => rfl); (case hg => rfl); (case hr => exact qq16); (case hp => exact (Reps.none _ _)); intro v107 w5 ho6 hb hg_ hnew_; clear hg_ hnew_; (first | rw [← Ny106.out] at ho6 | (simp only [Int.reduceToNat] at ho6; rw [← Ny106.out] at ho6)); have n0_ := Aside0.mk (Kd.R_lower ho6 (keep_size (w := w) (g := g) (row := none) qq6)); have n1_ := Aside0.mk (IsS61.below qq9 hb); have n2_ := Aside0.mk (KeepBut.trans qq6 (KeepBut.of_below hb g none) (.inl rfl)); have n3_ := Aside0.mk (below_step qq8 hb); clear HI0; clear HK; clear HB; have HO108 := n0_; have HI0 := n1_; have HK := n2_; have HB := n3_; clear n0_ n1_ n2_ n3_; clear hb ho6))
  go_loopg [7, 8] k (fun kq v7 v8 w' => ∃ (x7_1 : List (S32)) (x8_1 : Int) (x1001_1 : Int), v8 = .int .i64 x8_1 ∧ Aside0 (spec_l91Net.l0 kq (wrap64 (2 + t104)) x7_1 x8_1 s0_0 x1001_1 = some (r1, r2, r3)) ∧ Aside0 (kq ≤ k) ∧ Aside0 (Kd.R k32 32 w' w.heap.size (fun _ => True) v7 x7_1) ∧ Aside0 (IsS61 w0 w' g s0_0 x1001_1) ∧ Aside0 (KeepBut w w' g none) ∧ Aside0 (Below w0.heap.size w0 w'))
  case atStart => exact ⟨(y106), (1), (t105), qq13, H', ⟨Nat.le_refl _⟩, ⟨qq2 HO108.out⟩, ⟨qq9⟩, ⟨qq6⟩, ⟨qq8⟩⟩
  case round =>
    clear H'
    try clear p2
    try clear c3
    try clear c4
    try clear p6
    obtain ⟨x7_1, x8_1, x1001_1, rfl, HA, HK1, HO_7, HI0, HK, HB⟩ := hrel
    cases gk with
    | zero => exact absurd HA.out (by simp [spec_l91Net.l0])
    | succ k1 =>
      have H := HA.out
      clear HA
      simp only [spec_l91Net.l0] at H
      by_cases c7 : x8_1 < (wrap64 (2 + t104))
      · rw [if_pos c7] at H
        have c7b0 : decide (x8_1 < (wrap64 (2 + t104))) = true := decide_eq_true c7
        clear c7
        replace H := Option.bind_eq_some_iff.mp H
        obtain ⟨⟨t109, t110⟩, A80, H⟩ := H
        replace H : (if t109 > 0 then ((spec_l6Rd_pick.f k1 s0_0 t110 x8_1).bind fun bt111 => ((spec_l6Rd_pick.f k1 s0_0 bt111.2 61).bind fun bt113 => ((spec_l6Rd_pick.f k1 s0_0 bt113.2 4).bind fun bt115 => (if x7_1.length < 4398046511104 then (spec_l91Net.l0 k1 (wrap64 (2 + t104)) (x7_1 ++ [(⟨bt111.1, x8_1, wrap64 (bt113.1 - 30), wrap64 (1 + bt115.1)⟩ : S32)]) (wrap64 (x8_1 + 1)) s0_0 bt115.2) else (none))))) else (spec_l91Net.l0 k1 (wrap64 (2 + t104)) x7_1 (wrap64 (x8_1 + 1)) s0_0 t110)) = some (r1, r2, r3) := H
        have A8 := Aside0.mk A80
        clear A80
        by_cases c9 : t109 > 0
        · rw [if_pos c9] at H
          have c9b0 : decide (0 < t109) = true := decide_eq_true c9
          clear c9
          replace H := Option.bind_eq_some_iff.mp H
          obtain ⟨⟨t111, t112⟩, A100, H⟩ := H
          replace H : ((spec_l6Rd_pick.f k1 s0_0 t112 61).bind fun bt113 => ((spec_l6Rd_pick.f k1 s0_0 bt113.2 4).bind fun bt115 => (if x7_1.length < 4398046511104 then (spec_l91Net.l0 k1 (wrap64 (2 + t104)) (x7_1 ++ [(⟨t111, x8_1, wrap64 (bt113.1 - 30), wrap64 (1 + bt115.1)⟩ : S32)]) (wrap64 (x8_1 + 1)) s0_0 bt115.2) else (none)))) = some (r1, r2, r3) := H
          have A10 := Aside0.mk A100
          clear A100
          replace H := Option.bind_eq_some_iff.mp H
          obtain ⟨⟨t113, t114⟩, A110, H⟩ := H
          replace H : ((spec_l6Rd_pick.f k1 s0_0 t114 4).bind fun bt115 => (if x7_1.length < 4398046511104 then (spec_l91Net.l0 k1 (wrap64 (2 + t104)) (x7_1 ++ [(⟨t111, x8_1, wrap64 (t113 - 30), wrap64 (1 + bt115.1)⟩ : S32)]) (wrap64 (x8_1 + 1)) s0_0 bt115.2) else (none))) = some (r1, r2, r3) := H
          have A11 := Aside0.mk A110
          clear A110
          replace H := Option.bind_eq_some_iff.mp H
          obtain ⟨⟨t115, t116⟩, A120, H⟩ := H
          replace H : (if x7_1.length < 4398046511104 then (spec_l91Net.l0 k1 (wrap64 (2 + t104)) (x7_1 ++ [(⟨t111, x8_1, wrap64 (t113 - 30), wrap64 (1 + t115)⟩ : S32)]) (wrap64 (x8_1 + 1)) s0_0 t116) else (none)) = some (r1, r2, r3) := H
          have A12 := Aside0.mk A120
          clear A120
          by_cases c13 : x7_1.length < 4398046511104
          · rw [if_pos c13] at H
            have LMc13 := Aside0.mk c13
            clear c13
            obtain ⟨y117, hy117⟩ : ∃ y_ : List (S32), y_ = (x7_1 ++ [(⟨t111, x8_1, wrap64 (t113 - 30), wrap64 (1 + t115)⟩ : S32)]) := ⟨_, rfl⟩
            replace H : (spec_l91Net.l0 k1 (wrap64 (2 + t104)) y117 (wrap64 (x8_1 + 1)) s0_0 t116) = some (r1, r2, r3) := by first | (rw [hy117]; with_reducible exact H) | (have H2_ := (Option.bind_some _ _).symm.trans H; rw [hy117]; with_reducible exact H2_) | (have H2_ := (Option.bind_some _ _).symm.trans H; with_reducible exact H2_) | with_reducible exact H | (rw [hy117]; exact H) | exact H
            have Ny117 := Aside0.mk hy117
            clear hy117
            have H' := Aside0.mk H
            clear H
            go_wp2_with (first | ((with_reducible refine gate_callee (f := 36) rfl ?_); refine goesL_ (some 29) rfl rfl Try.func36 (by kernel_rfl) rfl #[.pointer (some ⟨g, 0, none⟩), .int .i64 12] rfl qq5 ?_; (with_reducible refine (spec_l6Rd_pick.calls k1 g s0_0 x1001_1 12 t109 t110 w0 _ ?side1 ?side2 A8.out).mono ?_); (case side1 => exact qq9); (case side2 => exact qq8); rintro e w14 ⟨rfl, hi, hb, hk⟩; refine ⟨_, rfl, ?_⟩; have n0_ := Aside0.mk (Kd.R_mono (Kd.R_keep (IsS61.apart (show IsS61 w0 _ g s0_0 x1001_1 from by repeat (first | (with_reducible first | exact HI0.out | apply IsS61.alloc | apply IsS61.drewN | apply IsS61.drew | apply IsS61.set_1) | exact HI0.out)) (qq2 HO_7.out) (by decide)) hk (fun _ h => h.2)) (fun _ h => h.1)); have n1_ := Aside0.mk (KeepBut.trans qq6 hk (.inl rfl)); have n2_ := Aside0.mk (hb); have n3_ := Aside0.mk (hi); clear HO_7; clear HK; clear HB; clear HI0; have HO_7 := n0_; have HK := n1_; have HB := n2_; have HI0 := n3_; clear n0_ n1_ n2_ n3_; (try clear hb); (try clear hb2); (try clear hk); (try clear hi)) | ((with_reducible refine gate_callee (f := 36) rfl ?_); refine goesL_ (some 34) rfl rfl Try.func36 (by kernel_rfl) rfl #[.pointer (some ⟨g, 0, none⟩), .int .i64 x8_1] rfl qq5 ?_; (with_reducible refine (spec_l6Rd_pick.calls k1 g s0_0 t110 x8_1 t111 t112 w0 _ ?side1 ?side2 A10.out).mono ?_); (case side1 => exact qq9); (case side2 => exact qq8); rintro e w15 ⟨rfl, hi, hb, hk⟩; refine ⟨_, rfl, ?_⟩; have n0_ := Aside0.mk (Kd.R_mono (Kd.R_keep (IsS61.apart (show IsS61 w0 _ g s0_0 t110 from by repeat (first | (with_reducible first | exact HI0.out | apply IsS61.alloc | apply IsS61.drewN | apply IsS61.drew | apply IsS61.set_1) | exact HI0.out)) (qq2 HO_7.out) (by decide)) hk (fun _ h => h.2)) (fun _ h => h.1)); have n1_ := Aside0.mk (KeepBut.trans qq6 hk (.inl rfl)); have n2_ := Aside0.mk (hb); have n3_ := Aside0.mk (hi); clear HO_7; clear HK; clear HB; clear HI0; have HO_7 := n0_; have HK := n1_; have HB := n2_; have HI0 := n3_; clear n0_ n1_ n2_ n3_; (try clear hb); (try clear hb2); (try clear hk); (try clear hi)) | ((with_reducible refine gate_callee (f := 36) rfl ?_); refine goesL_ (some 37) rfl rfl Try.func36 (by kernel_rfl) rfl #[.pointer (some ⟨g, 0, none⟩), .int .i64 61] rfl qq5 ?_; (with_reducible refine (spec_l6Rd_pick.calls k1 g s0_0 t112 61 t113 t114 w0 _ ?side1 ?side2 A11.out).mono ?_); (case side1 => exact qq9); (case side2 => exact qq8); rintro e w16 ⟨rfl, hi, hb, hk⟩; refine ⟨_, rfl, ?_⟩; have n0_ := Aside0.mk (Kd.R_mono (Kd.R_keep (IsS61.apart (show IsS61 w0 _ g s0_0 t112 from by repeat (first | (with_reducible first | exact HI0.out | apply IsS61.alloc | apply IsS61.drewN | apply IsS61.drew | apply IsS61.set_1) | exact HI0.out)) (qq2 HO_7.out) (by decide)) hk (fun _ h => h.2)) (fun _ h => h.1)); have n1_ := Aside0.mk (KeepBut.trans qq6 hk (.inl rfl)); have n2_ := Aside0.mk (hb); have n3_ := Aside0.mk (hi); clear HO_7; clear HK; clear HB; clear HI0; have HO_7 := n0_; have HK := n1_; have HB := n2_; have HI0 := n3_; clear n0_ n1_ n2_ n3_; (try clear hb); (try clear hb2); (try clear hk); (try clear hi)) | ((with_reducible refine gate_callee (f := 36) rfl ?_); refine goesL_ (some 40) rfl rfl Try.func36 (by kernel_rfl) rfl #[.pointer (some ⟨g, 0, none⟩), .int .i64 4] rfl qq5 ?_; (with_reducible refine (spec_l6Rd_pick.calls k1 g s0_0 t114 4 t115 t116 w0 _ ?side1 ?side2 A12.out).mono ?_); (case side1 => exact qq9); (case side2 => exact qq8); rintro e w17 ⟨rfl, hi, hb, hk⟩; refine ⟨_, rfl, ?_⟩; have n0_ := Aside0.mk (Kd.R_mono (Kd.R_keep (IsS61.apart (show IsS61 w0 _ g s0_0 t114 from by repeat (first | (with_reducible first | exact HI0.out | apply IsS61.alloc | apply IsS61.drewN | apply IsS61.drew | apply IsS61.set_1) | exact HI0.out)) (qq2 HO_7.out) (by decide)) hk (fun _ h => h.2)) (fun _ h => h.1)); have n1_ := Aside0.mk (KeepBut.trans qq6 hk (.inl rfl)); have n2_ := Aside0.mk (hb); have n3_ := Aside0.mk (hi); clear HO_7; clear HK; clear HB; clear HI0; have HO_7 := n0_; have HK := n1_; have HB := n2_; have HI0 := n3_; clear n0_ n1_ n2_ n3_; (try clear hb); (try clear hb2); (try clear hk); (try clear hi)) | ((with_reducible refine gate_builtin (b := .append) (xs := #[.tmp 31, .tmp 43]) rfl ?_); at_builtin; refine Kd.R_append k32 w.heap.size rfl (.tmp 31) (.tmp 43) 23 32 (.agg #[(.int .i64 0), (.int .i64 0), (.int .i64 0), (.int .i64 0)]) 32 rfl Try.underlying23 info32 rfl (by decide) (by omega) u7 x7_1 (⟨t111, x8_1, wrap64 (t113 - 30), wrap64 (1 + t115)⟩ : S32) [.int .i64 t111, .int .i64 x8_1, .int .i64 (wrap64 (t113 - 30)), .int .i64 (wrap64 (1 + t115))] (fun _ => True) (fun _ => False) rfl rfl ?aP (fun _ hk => hk.elim) ?aF ?aO (Below.refl _ _) ?aS ?aL ?_; (case aP => exact k32_mkM _ _ _ (⟨t111, x8_1, wrap64 (t113 - 30), wrap64 (1 + t115)⟩ : S32)); (case aF => exact qq75); (case aO => exact (qq2 HO_7.out)); (case aS => exact qq82); (case aL => have := LMc13.out; omega); intro v118 w18 ho hb hg hat; rw [← Ny117.out] at ho; have n0_ := Aside0.mk (IsS61.grown qq9 hg (IsS61.own_ne HI0.out HO_7.out (by decide))); have n1_ := Aside0.mk (below_weaken qq8 HL.out hb); have n2_ := Aside0.mk (KeepBut.trans qq6 (KeepBut.of_grown hg g) (Kd.R_base2 HO_7.out)); have n3_ := Aside0.mk (ho); clear HI0; clear HB; clear HK; clear HO_7; have HI0 := n0_; have HB := n1_; have HK := n2_; have HO119 := n3_; clear n0_ n1_ n2_ n3_; clear ho hb hg hat))
            go_roundg k1
            case measure => have := HK1.out; omega
            case rel => exact ⟨(y117), (wrap64 (x8_1 + 1)), (t116), qq13, H', ⟨by have := HK1.out; omega⟩, ⟨qq2 HO119.out⟩, ⟨qq9⟩, ⟨qq6⟩, ⟨qq8⟩⟩
          · rw [if_neg c13] at H
            exact absurd H (by simp)
        · rw [if_neg c9] at H
          have c9b0 : decide (0 < t109) = false := decide_eq_false c9
          clear c9
          have H' := Aside0.mk H
          clear H
          go_wp2_with (first | ((with_reducible refine gate_callee (f := 36) rfl ?_); refine goesL_ (some 29) rfl rfl Try.func36 (by kernel_rfl) rfl #[.pointer (some ⟨g, 0, none⟩), .int .i64 12] rfl qq5 ?_; (with_reducible refine (spec_l6Rd_pick.calls k1 g s0_0 x1001_1 12 t109 t110 w0 _ ?side1 ?side2 A8.out).mono ?_); (case side1 => exact qq9); (case side2 => exact qq8); rintro e w19 ⟨rfl, hi, hb, hk⟩; refine ⟨_, rfl, ?_⟩; have n0_ := Aside0.mk (Kd.R_mono (Kd.R_keep (IsS61.apart (show IsS61 w0 _ g s0_0 x1001_1 from by repeat (first | (with_reducible first | exact HI0.out | apply IsS61.alloc | apply IsS61.drewN | apply IsS61.drew | apply IsS61.set_1) | exact HI0.out)) (qq2 HO_7.out) (by decide)) hk (fun _ h => h.2)) (fun _ h => h.1)); have n1_ := Aside0.mk (KeepBut.trans qq6 hk (.inl rfl)); have n2_ := Aside0.mk (hb); have n3_ := Aside0.mk (hi); clear HO_7; clear HK; clear HB; clear HI0; have HO_7 := n0_; have HK := n1_; have HB := n2_; have HI0 := n3_; clear n0_ n1_ n2_ n3_; (try clear hb); (try clear hb2); (try clear hk); (try clear hi)))
          go_roundg k1
          case measure => have := HK1.out; omega
          case rel => exact ⟨(x7_1), (wrap64 (x8_1 + 1)), (t110), qq13, H', ⟨by have := HK1.out; omega⟩, ⟨qq2 HO_7.out⟩, ⟨qq9⟩, ⟨qq6⟩, ⟨qq8⟩⟩
      · rw [if_neg c7] at H
        have c7b0 : decide (x8_1 < (wrap64 (2 + t104))) = false := decide_eq_false c7
        clear c7
        replace H := Option.bind_eq_some_iff.mp H
        obtain ⟨⟨t120, t121⟩, A200, H⟩ := H
        replace H : (spec_l91Net.l1 k1 (wrap64 (2 + t104)) x7_1 t120 0 s0_0 t121) = some (r1, r2, r3) := H
        have A20 := Aside0.mk A200
        clear A200
        have H' := Aside0.mk H
        clear H
        go_wp2_with (first | ((with_reducible refine gate_callee (f := 36) rfl ?_); refine goesL_ (some 46) rfl rfl Try.func36 (by kernel_rfl) rfl #[.pointer (some ⟨g, 0, none⟩), .int .i64 4] rfl qq5 ?_; (with_reducible refine (spec_l6Rd_pick.calls k1 g s0_0 x1001_1 4 t120 t121 w0 _ ?side1 ?side2 A20.out).mono ?_); (case side1 => exact qq9); (case side2 => exact qq8); rintro e w21 ⟨rfl, hi, hb, hk⟩; refine ⟨_, rfl, ?_⟩; have n0_ := Aside0.mk (Kd.R_mono (Kd.R_keep (IsS61.apart (show IsS61 w0 _ g s0_0 x1001_1 from by repeat (first | (with_reducible first | exact HI0.out | apply IsS61.alloc | apply IsS61.drewN | apply IsS61.drew | apply IsS61.set_1) | exact HI0.out)) (qq2 HO_7.out) (by decide)) hk (fun _ h => h.2)) (fun _ h => h.1)); have n1_ := Aside0.mk (KeepBut.trans qq6 hk (.inl rfl)); have n2_ := Aside0.mk (hb); have n3_ := Aside0.mk (hi); clear HO_7; clear HK; clear HB; clear HI0; have HO_7 := n0_; have HK := n1_; have HB := n2_; have HI0 := n3_; clear n0_ n1_ n2_ n3_; (try clear hb); (try clear hb2); (try clear hk); (try clear hi)))
        go_loopg [7, 10] k1 (fun kq v7 v10 w' => ∃ (x7_2 : List (S32)) (x10_2 : Int) (x1001_2 : Int), v10 = .int .i64 x10_2 ∧ Aside0 (spec_l91Net.l1 kq (wrap64 (2 + t104)) x7_2 t120 x10_2 s0_0 x1001_2 = some (r1, r2, r3)) ∧ Aside0 (kq ≤ k1) ∧ Aside0 (Kd.R k32 32 w' w.heap.size (fun _ => True) v7 x7_2) ∧ Aside0 (IsS61 w0 w' g s0_0 x1001_2) ∧ Aside0 (KeepBut w w' g none) ∧ Aside0 (Below w0.heap.size w0 w'))
        case atStart => exact ⟨(x7_1), (0), (t121), qq13, H', ⟨Nat.le_refl _⟩, ⟨qq2 HO_7.out⟩, ⟨qq9⟩, ⟨qq6⟩, ⟨qq8⟩⟩
        case round =>
          clear H'
          try clear c1
          try clear p2
          try clear c3
          try clear c4
          try clear p6
          try clear c7
          try clear c7b0
          try clear c9
          try clear c9b0
          try clear c13
          try clear p2
          try clear p6
          obtain ⟨x7_2, x10_2, x1001_2, rfl, HA, HK2, HO_7, HI0, HK, HB⟩ := hrel
          cases gk with
          | zero => exact absurd HA.out (by simp [spec_l91Net.l1])
          | succ k2 =>
            have H := HA.out
            clear HA
            simp only [spec_l91Net.l1] at H
            by_cases c22 : x10_2 < t120
            · rw [if_pos c22] at H
              have c22b0 : decide (x10_2 < t120) = true := decide_eq_true c22
              clear c22
              replace H := Option.bind_eq_some_iff.mp H
              obtain ⟨⟨t122, t123⟩, A230, H⟩ := H
              replace H : ((spec_l6Rd_pick.f k2 s0_0 t123 (wrap64 ((wrap64 (2 + t104)) - 1))).bind fun bt124 => (if (wrap64 (2 + t104)) = 0 then (none) else ((spec_l6Rd_pick.f k2 s0_0 bt124.2 61).bind fun bt126 => ((spec_l6Rd_pick.f k2 s0_0 bt126.2 4).bind fun bt128 => (if x7_2.length < 4398046511104 then (spec_l91Net.l1 k2 (wrap64 (2 + t104)) (x7_2 ++ [(⟨t122, Int.tmod (wrap64 ((wrap64 (t122 + 1)) + bt124.1)) (wrap64 (2 + t104)), wrap64 (bt126.1 - 30), wrap64 (1 + bt128.1)⟩ : S32)]) t120 (wrap64 (x10_2 + 1)) s0_0 bt128.2) else (none)))))) = some (r1, r2, r3) := H
              have A23 := Aside0.mk A230
              clear A230
              replace H := Option.bind_eq_some_iff.mp H
              obtain ⟨⟨t124, t125⟩, A240, H⟩ := H
              replace H : (if (wrap64 (2 + t104)) = 0 then (none) else ((spec_l6Rd_pick.f k2 s0_0 t125 61).bind fun bt126 => ((spec_l6Rd_pick.f k2 s0_0 bt126.2 4).bind fun bt128 => (if x7_2.length < 4398046511104 then (spec_l91Net.l1 k2 (wrap64 (2 + t104)) (x7_2 ++ [(⟨t122, Int.tmod (wrap64 ((wrap64 (t122 + 1)) + t124)) (wrap64 (2 + t104)), wrap64 (bt126.1 - 30), wrap64 (1 + bt128.1)⟩ : S32)]) t120 (wrap64 (x10_2 + 1)) s0_0 bt128.2) else (none))))) = some (r1, r2, r3) := H
              have A24 := Aside0.mk A240
              clear A240
              by_cases c25 : (wrap64 (2 + t104)) = 0
              · rw [if_pos c25] at H
                exact absurd H (by simp)
              · rw [if_neg c25] at H
                have c25b0 : ((wrap64 (2 + t104)) == 0) = false := beq_eq_false_iff_ne.mpr c25
                have c25b1 : ((wrap64 (2 + t104)) != 0) = true := bne_iff_ne.mpr c25
                replace H := Option.bind_eq_some_iff.mp H
                obtain ⟨⟨t126, t127⟩, A260, H⟩ := H
                replace H : ((spec_l6Rd_pick.f k2 s0_0 t127 4).bind fun bt128 => (if x7_2.length < 4398046511104 then (spec_l91Net.l1 k2 (wrap64 (2 + t104)) (x7_2 ++ [(⟨t122, Int.tmod (wrap64 ((wrap64 (t122 + 1)) + t124)) (wrap64 (2 + t104)), wrap64 (t126 - 30), wrap64 (1 + bt128.1)⟩ : S32)]) t120 (wrap64 (x10_2 + 1)) s0_0 bt128.2) else (none))) = some (r1, r2, r3) := H
                have A26 := Aside0.mk A260
                clear A260
                replace H := Option.bind_eq_some_iff.mp H
                obtain ⟨⟨t128, t129⟩, A270, H⟩ := H
                replace H : (if x7_2.length < 4398046511104 then (spec_l91Net.l1 k2 (wrap64 (2 + t104)) (x7_2 ++ [(⟨t122, Int.tmod (wrap64 ((wrap64 (t122 + 1)) + t124)) (wrap64 (2 + t104)), wrap64 (t126 - 30), wrap64 (1 + t128)⟩ : S32)]) t120 (wrap64 (x10_2 + 1)) s0_0 t129) else (none)) = some (r1, r2, r3) := H
                have A27 := Aside0.mk A270
                clear A270
                by_cases c28 : x7_2.length < 4398046511104
                · rw [if_pos c28] at H
                  have LMc28 := Aside0.mk c28
                  clear c28
                  obtain ⟨y130, hy130⟩ : ∃ y_ : List (S32), y_ = (x7_2 ++ [(⟨t122, Int.tmod (wrap64 ((wrap64 (t122 + 1)) + t124)) (wrap64 (2 + t104)), wrap64 (t126 - 30), wrap64 (1 + t128)⟩ : S32)]) := ⟨_, rfl⟩
                  replace H : (spec_l91Net.l1 k2 (wrap64 (2 + t104)) y130 t120 (wrap64 (x10_2 + 1)) s0_0 t129) = some (r1, r2, r3) := by first | (rw [hy130]; with_reducible exact H) | (have H2_ := (Option.bind_some _ _).symm.trans H; rw [hy130]; with_reducible exact H2_) | (have H2_ := (Option.bind_some _ _).symm.trans H; with_reducible exact H2_) | with_reducible exact H | (rw [hy130]; exact H) | exact H
                  have Ny130 := Aside0.mk hy130
                  clear hy130
                  have H' := Aside0.mk H
                  clear H
                  go_wp2_with (first | ((with_reducible refine gate_callee (f := 36) rfl ?_); refine goesL_ (some 54) rfl rfl Try.func36 (by kernel_rfl) rfl #[.pointer (some ⟨g, 0, none⟩), .int .i64 (wrap64 (2 + t104))] rfl qq5 ?_; (with_reducible refine (spec_l6Rd_pick.calls k2 g s0_0 x1001_2 (wrap64 (2 + t104)) t122 t123 w0 _ ?side1 ?side2 A23.out).mono ?_); (case side1 => exact qq9); (case side2 => exact qq8); rintro e w29 ⟨rfl, hi, hb, hk⟩; refine ⟨_, rfl, ?_⟩; have n0_ := Aside0.mk (Kd.R_mono (Kd.R_keep (IsS61.apart (show IsS61 w0 _ g s0_0 x1001_2 from by repeat (first | (with_reducible first | exact HI0.out | apply IsS61.alloc | apply IsS61.drewN | apply IsS61.drew | apply IsS61.set_1) | exact HI0.out)) (qq2 HO_7.out) (by decide)) hk (fun _ h => h.2)) (fun _ h => h.1)); have n1_ := Aside0.mk (KeepBut.trans qq6 hk (.inl rfl)); have n2_ := Aside0.mk (hb); have n3_ := Aside0.mk (hi); clear HO_7; clear HK; clear HB; clear HI0; have HO_7 := n0_; have HK := n1_; have HB := n2_; have HI0 := n3_; clear n0_ n1_ n2_ n3_; (try clear hb); (try clear hb2); (try clear hk); (try clear hi)) | ((with_reducible refine gate_callee (f := 36) rfl ?_); refine goesL_ (some 60) rfl rfl Try.func36 (by kernel_rfl) rfl #[.pointer (some ⟨g, 0, none⟩), .int .i64 (wrap64 ((wrap64 (2 + t104)) - 1))] rfl qq5 ?_; (with_reducible refine (spec_l6Rd_pick.calls k2 g s0_0 t123 (wrap64 ((wrap64 (2 + t104)) - 1)) t124 t125 w0 _ ?side1 ?side2 A24.out).mono ?_); (case side1 => exact qq9); (case side2 => exact qq8); rintro e w30 ⟨rfl, hi, hb, hk⟩; refine ⟨_, rfl, ?_⟩; have n0_ := Aside0.mk (Kd.R_mono (Kd.R_keep (IsS61.apart (show IsS61 w0 _ g s0_0 t123 from by repeat (first | (with_reducible first | exact HI0.out | apply IsS61.alloc | apply IsS61.drewN | apply IsS61.drew | apply IsS61.set_1) | exact HI0.out)) (qq2 HO_7.out) (by decide)) hk (fun _ h => h.2)) (fun _ h => h.1)); have n1_ := Aside0.mk (KeepBut.trans qq6 hk (.inl rfl)); have n2_ := Aside0.mk (hb); have n3_ := Aside0.mk (hi); clear HO_7; clear HK; clear HB; clear HI0; have HO_7 := n0_; have HK := n1_; have HB := n2_; have HI0 := n3_; clear n0_ n1_ n2_ n3_; (try clear hb); (try clear hb2); (try clear hk); (try clear hi)) | ((with_reducible refine gate_callee (f := 36) rfl ?_); refine goesL_ (some 68) rfl rfl Try.func36 (by kernel_rfl) rfl #[.pointer (some ⟨g, 0, none⟩), .int .i64 61] rfl qq5 ?_; (with_reducible refine (spec_l6Rd_pick.calls k2 g s0_0 t125 61 t126 t127 w0 _ ?side1 ?side2 A26.out).mono ?_); (case side1 => exact qq9); (case side2 => exact qq8); rintro e w31 ⟨rfl, hi, hb, hk⟩; refine ⟨_, rfl, ?_⟩; have n0_ := Aside0.mk (Kd.R_mono (Kd.R_keep (IsS61.apart (show IsS61 w0 _ g s0_0 t125 from by repeat (first | (with_reducible first | exact HI0.out | apply IsS61.alloc | apply IsS61.drewN | apply IsS61.drew | apply IsS61.set_1) | exact HI0.out)) (qq2 HO_7.out) (by decide)) hk (fun _ h => h.2)) (fun _ h => h.1)); have n1_ := Aside0.mk (KeepBut.trans qq6 hk (.inl rfl)); have n2_ := Aside0.mk (hb); have n3_ := Aside0.mk (hi); clear HO_7; clear HK; clear HB; clear HI0; have HO_7 := n0_; have HK := n1_; have HB := n2_; have HI0 := n3_; clear n0_ n1_ n2_ n3_; (try clear hb); (try clear hb2); (try clear hk); (try clear hi)) | ((with_reducible refine gate_callee (f := 36) rfl ?_); refine goesL_ (some 71) rfl rfl Try.func36 (by kernel_rfl) rfl #[.pointer (some ⟨g, 0, none⟩), .int .i64 4] rfl qq5 ?_; (with_reducible refine (spec_l6Rd_pick.calls k2 g s0_0 t127 4 t128 t129 w0 _ ?side1 ?side2 A27.out).mono ?_); (case side1 => exact qq9); (case side2 => exact qq8); rintro e w32 ⟨rfl, hi, hb, hk⟩; refine ⟨_, rfl, ?_⟩; have n0_ := Aside0.mk (Kd.R_mono (Kd.R_keep (IsS61.apart (show IsS61 w0 _ g s0_0 t127 from by repeat (first | (with_reducible first | exact HI0.out | apply IsS61.alloc | apply IsS61.drewN | apply IsS61.drew | apply IsS61.set_1) | exact HI0.out)) (qq2 HO_7.out) (by decide)) hk (fun _ h => h.2)) (fun _ h => h.1)); have n1_ := Aside0.mk (KeepBut.trans qq6 hk (.inl rfl)); have n2_ := Aside0.mk (hb); have n3_ := Aside0.mk (hi); clear HO_7; clear HK; clear HB; clear HI0; have HO_7 := n0_; have HK := n1_; have HB := n2_; have HI0 := n3_; clear n0_ n1_ n2_ n3_; (try clear hb); (try clear hb2); (try clear hk); (try clear hi)) | ((with_reducible refine gate_builtin (b := .append) (xs := #[.tmp 64, .tmp 74]) rfl ?_); at_builtin; refine Kd.R_append k32 w.heap.size rfl (.tmp 64) (.tmp 74) 23 32 (.agg #[(.int .i64 0), (.int .i64 0), (.int .i64 0), (.int .i64 0)]) 32 rfl Try.underlying23 info32 rfl (by decide) (by omega) u7 x7_2 (⟨t122, Int.tmod (wrap64 ((wrap64 (t122 + 1)) + t124)) (wrap64 (2 + t104)), wrap64 (t126 - 30), wrap64 (1 + t128)⟩ : S32) [.int .i64 t122, .int .i64 (Int.tmod (wrap64 ((wrap64 (t122 + 1)) + t124)) (wrap64 (2 + t104))), .int .i64 (wrap64 (t126 - 30)), .int .i64 (wrap64 (1 + t128))] (fun _ => True) (fun _ => False) rfl rfl ?aP (fun _ hk => hk.elim) ?aF ?aO (Below.refl _ _) ?aS ?aL ?_; (case aP => exact k32_mkM _ _ _ (⟨t122, Int.tmod (wrap64 ((wrap64 (t122 + 1)) + t124)) (wrap64 (2 + t104)), wrap64 (t126 - 30), wrap64 (1 + t128)⟩ : S32)); (case aF => exact qq75); (case aO => exact (qq2 HO_7.out)); (case aS => exact qq82); (case aL => have := LMc28.out; omega); intro v131 w33 ho hb hg hat; rw [← Ny130.out] at ho; have n0_ := Aside0.mk (IsS61.grown qq9 hg (IsS61.own_ne HI0.out HO_7.out (by decide))); have n1_ := Aside0.mk (below_weaken qq8 HL.out hb); have n2_ := Aside0.mk (KeepBut.trans qq6 (KeepBut.of_grown hg g) (Kd.R_base2 HO_7.out)); have n3_ := Aside0.mk (ho); clear HI0; clear HB; clear HK; clear HO_7; have HI0 := n0_; have HB := n1_; have HK := n2_; have HO132 := n3_; clear n0_ n1_ n2_ n3_; clear ho hb hg hat))
                  go_roundg k2
                  case measure => have := HK1.out; have := HK2.out; omega
                  case rel => exact ⟨(y130), (wrap64 (x10_2 + 1)), (t129), qq13, H', ⟨qq76 HK1.out HK2.out⟩, ⟨qq2 HO132.out⟩, ⟨qq9⟩, ⟨qq6⟩, ⟨qq8⟩⟩
                · rw [if_neg c28] at H
                  exact absurd H (by simp)
            · rw [if_neg c22] at H
              have c22b0 : decide (x10_2 < t120) = false := decide_eq_false c22
              clear c22
              have H' := Aside0.mk H
              clear H
              go_wp2
              go_loopg [13] k2 (fun kq v13 w' => ∃ (x7_3 : List (S32)) (x13_3 : Int) (x1001_3 : Int), v13 = .int .i64 x13_3 ∧ Aside0 (spec_l91Net.l2 kq (wrap64 (2 + t104)) x7_3 x13_3 s0_0 x1001_3 = some (r1, r2, r3)) ∧ Aside0 (kq ≤ k2) ∧ Aside0 (Kd.R k32 32 w' w.heap.size (fun _ => True) u7 x7_3) ∧ Aside0 (IsS61 w0 w' g s0_0 x1001_3) ∧ Aside0 (KeepBut w w' g none) ∧ Aside0 (Below w0.heap.size w0 w'))
              case atStart => exact ⟨(x7_2), (0), (x1001_2), qq13, H', ⟨Nat.le_refl _⟩, ⟨qq2 HO_7.out⟩, ⟨qq9⟩, ⟨qq6⟩, ⟨qq8⟩⟩
              case round =>
                clear H'
                try clear c1
                try clear c2
                try clear p2
                try clear c3
                try clear c4
                try clear p6
                try clear c7
                try clear c7b0
                try clear c9
                try clear c9b0
                try clear c13
                try clear c22
                try clear c22b0
                try clear c25
                try clear c25b0
                try clear c25b1
                try clear c28
                try clear p2
                try clear p6
                obtain ⟨x7_3, x13_3, x1001_3, rfl, HA, HK3, HO_7, HI0, HK, HB⟩ := hrel
                cases gk with
                | zero => exact absurd HA.out (by simp [spec_l91Net.l2])
                | succ k3 =>
                  have H := HA.out
                  clear HA
                  simp only [spec_l91Net.l2] at H
                  by_cases c34 : x13_3 < (x7_3.length : Int)
                  · rw [if_pos c34] at H
                    have c34b0 : decide (x13_3 < (x7_3.length : Int)) = true := decide_eq_true c34
                    clear c34
                    replace H := Option.bind_eq_some_iff.mp H
                    obtain ⟨⟨t133, t134⟩, A350, H⟩ := H
                    replace H : (if t133 = 0 then (if 0 ≤ x13_3 then (spec_l91Net.l2 k3 (wrap64 (2 + t104)) (x7_3.set (x13_3 : Int).toNat (⟨(rd_T32 x7_3 x13_3).f1, (rd_T32 x7_3 x13_3).f0, wrap64 (-((rd_T32 x7_3 x13_3).f2)), (rd_T32 x7_3 x13_3).f3⟩ : S32)) (wrap64 (x13_3 + 1)) s0_0 t134) else (none)) else (spec_l91Net.l2 k3 (wrap64 (2 + t104)) x7_3 (wrap64 (x13_3 + 1)) s0_0 t134)) = some (r1, r2, r3) := H
                    have A35 := Aside0.mk A350
                    clear A350
                    by_cases c36 : t133 = 0
                    · rw [if_pos c36] at H
                      have c36b0 : (t133 == 0) = true := beq_iff_eq.mpr c36
                      have c36b1 : (t133 != 0) = false := bne_eq_false_iff_eq.mpr c36
                      clear c36
                      by_cases c37 : 0 ≤ x13_3
                      · rw [if_pos c37] at H
                        have c37b0 : decide (0 ≤ x13_3) = true := decide_eq_true c37
                        clear c37
                        obtain ⟨y137, hy137⟩ : ∃ y_ : List (S32), y_ = (x7_3.set (x13_3 : Int).toNat (⟨(rd_T32 x7_3 x13_3).f1, (rd_T32 x7_3 x13_3).f0, wrap64 (-((rd_T32 x7_3 x13_3).f2)), (rd_T32 x7_3 x13_3).f3⟩ : S32)) := ⟨_, rfl⟩
                        replace H : (spec_l91Net.l2 k3 (wrap64 (2 + t104)) y137 (wrap64 (x13_3 + 1)) s0_0 t134) = some (r1, r2, r3) := by first | (rw [hy137]; with_reducible exact H) | (have H2_ := (Option.bind_some _ _).symm.trans H; rw [hy137]; with_reducible exact H2_) | (have H2_ := (Option.bind_some _ _).symm.trans H; with_reducible exact H2_) | with_reducible exact H | (rw [hy137]; exact H) | exact H
                        have Ny137 := Aside0.mk hy137
                        clear hy137
                        have H' := Aside0.mk H
                        clear H
                        obtain ⟨Ao39, co39, eo39⟩ := Kd.R_slice HO_7.out
                        subst eo39
                        go_wp2_with (first | ((with_reducible refine gate_callee (f := 36) rfl ?_); refine goesL_ (some 83) rfl rfl Try.func36 (by kernel_rfl) rfl #[.pointer (some ⟨g, 0, none⟩), .int .i64 3] rfl qq5 ?_; (with_reducible refine (spec_l6Rd_pick.calls k3 g s0_0 x1001_3 3 t133 t134 w0 _ ?side1 ?side2 A35.out).mono ?_); (case side1 => exact qq9); (case side2 => exact qq8); rintro e w40 ⟨rfl, hi, hb, hk⟩; refine ⟨_, rfl, ?_⟩; have n0_ := Aside0.mk (Kd.R_mono (Kd.R_keep (IsS61.apart (show IsS61 w0 _ g s0_0 x1001_3 from by repeat (first | (with_reducible first | exact HI0.out | apply IsS61.alloc | apply IsS61.drewN | apply IsS61.drew | apply IsS61.set_1) | exact HI0.out)) (qq2 HO_7.out) (by decide)) hk (fun _ h => h.2)) (fun _ h => h.1)); have n1_ := Aside0.mk (KeepBut.trans qq6 hk (.inl rfl)); have n2_ := Aside0.mk (hb); have n3_ := Aside0.mk (hi); clear HO_7; clear HK; clear HB; clear HI0; have HO_7 := n0_; have HK := n1_; have HB := n2_; have HI0 := n3_; clear n0_ n1_ n2_ n3_; (try clear hb); (try clear hb2); (try clear hk); (try clear hi); have p135 : 0 ≤ (x13_3 : Int) := of_decide_eq_true qq3; have q135 : x13_3 < (x7_3.length : Int) := of_decide_eq_true qq3; obtain ⟨ad135, e135, hx135_0, hx135_1, hx135_2, hx135_3⟩ := at_T32 (Kd.R_reads' HO_7.out).2.2 x13_3 p135 q135; cases e135; replace p135 := eq_true p135; replace q135 := eq_true q135) | ((with_reducible refine gate_dst (N := 14) rfl ?_); refine box_event ?hg (N := 14) ?hd (cs := #[.int .i64 0, .int .i64 0, .int .i64 0, .int .i64 0]) (t := 32) ?hr ?_; (case hd => rfl); (case hg => rfl); (case hr => exact qq16); intro gb136 hg w41 hbox hb; have n0_ := Aside0.mk (Kd.R_below (Kd.R_elderB (qq2 HO_7.out) gb136 (Nat.le_of_eq hg.symm)) hb); have n1_ := Aside0.mk (IsS61.below qq9 hb); have n2_ := Aside0.mk (KeepBut.trans qq6 (KeepBut.of_below hb g none) (.inl rfl)); have n3_ := Aside0.mk (below_step qq8 hb); have n4_ := Aside0.mk (hbox); have n5_ := Aside0.mk ((qq63 : w.heap.size ≤ gb136)); have n6_ := Aside0.mk ((Nat.le_trans HW0.out (qq63 : w.heap.size ≤ gb136) : w0.heap.size ≤ gb136)); have n7_ := Aside0.mk ((by rw [hg]; exact Nat.ne_of_lt (IsS61.lt (show IsS61 w0 _ g s0_0 t134 from by repeat (first | (with_reducible first | exact HI0.out | apply IsS61.alloc | apply IsS61.drewN | apply IsS61.drew | apply IsS61.set_1) | exact HI0.out))) : g ≠ gb136)); have n8_ := Aside0.mk ((by rw [hg]; exact Nat.ne_of_gt (IsS61.lt (show IsS61 w0 _ g s0_0 t134 from by repeat (first | (with_reducible first | exact HI0.out | apply IsS61.alloc | apply IsS61.drewN | apply IsS61.drew | apply IsS61.set_1) | exact HI0.out))) : gb136 ≠ g)); clear HO_7; clear HI0; clear HK; clear HB; have HO_7 := n0_; have HI0 := n1_; have HK := n2_; have HB := n3_; have BK136 := n4_; have GW136 := n5_; have GE136 := n6_; have NB0_136 := n7_; have NB136_0 := n8_; clear n0_ n1_ n2_ n3_ n4_ n5_ n6_ n7_ n8_; clear hb hbox hg; have hnb42 := NB136_0.out; have hnc42 := NB0_136.out; have hcz43_0 : w41.cell? ⟨gb136, 0, none⟩ = some (.int .i64 0) := (blk_cell BK136.out 0).trans rfl; have hcz43_1 : w41.cell? ⟨gb136, 1, none⟩ = some (.int .i64 0) := (blk_cell BK136.out 1).trans rfl; have hcz43_2 : w41.cell? ⟨gb136, 2, none⟩ = some (.int .i64 0) := (blk_cell BK136.out 2).trans rfl; have hcz43_3 : w41.cell? ⟨gb136, 3, none⟩ = some (.int .i64 0) := (blk_cell BK136.out 3).trans rfl; have hfz43_0 := blk_frozen BK136.out 0; have hfz43_1 := blk_frozen BK136.out 1; have hfz43_2 := blk_frozen BK136.out 2; have hfz43_3 := blk_frozen BK136.out 3) | ((with_reducible refine gate_store (t := 32) (p := 14) rfl ?_); refine store_event (t := 32) (p := 14) (v := ?vo_w44) (w1 := ((((w41.setCell ⟨gb136, 0, none⟩ (.int .i64 ((rd_T32 x7_3 x13_3).f0))).setCell ⟨gb136, 1, none⟩ (.int .i64 ((rd_T32 x7_3 x13_3).f1))).setCell ⟨gb136, 2, none⟩ (.int .i64 ((rd_T32 x7_3 x13_3).f2))).setCell ⟨gb136, 3, none⟩ (.int .i64 ((rd_T32 x7_3 x13_3).f3)))) ?hg ?ho ?hn ?hr ?_; (case ho => rfl); (case hg => rfl); (case hn => rfl); (case hr => exact qq16); intro w44 hw; have n0_ : Aside0 (Kd.R k32 32 w44 w.heap.size (fun k_ => k_ ≠ gb136) (.slice (some ad135) x7_3.length co39) x7_3) := ⟨(by rw [hw]; exact (by (with_reducible repeat (first | apply Kd.R_alloc | apply Kd.R_drewN | apply Kd.R_drew)); exact Kd.R_mono (Kd.R_far (p := ⟨gb136, 3, none⟩) (Kd.R_far (p := ⟨gb136, 2, none⟩) (Kd.R_far (p := ⟨gb136, 1, none⟩) (Kd.R_far (p := ⟨gb136, 0, none⟩) (Kd.R_mono HO_7.out (fun k_ hk => (⟨hk, hk.2⟩ : _ ∧ k_ ≠ gb136))) (fun _ hk => hk.2) (.int .i64 ((rd_T32 x7_3 x13_3).f0))) (fun _ hk => hk.2) (.int .i64 ((rd_T32 x7_3 x13_3).f1))) (fun _ hk => hk.2) (.int .i64 ((rd_T32 x7_3 x13_3).f2))) (fun _ hk => hk.2) (.int .i64 ((rd_T32 x7_3 x13_3).f3))) (fun _ hk => hk.1.2)))⟩; have n1_ : Aside0 (w44.heap[gb136]? = some (.cells #[.int .i64 ((rd_T32 x7_3 x13_3).f0), .int .i64 ((rd_T32 x7_3 x13_3).f1), .int .i64 ((rd_T32 x7_3 x13_3).f2), .int .i64 ((rd_T32 x7_3 x13_3).f3)] 32 (0, 0))) := ⟨(by rw [hw]; exact (by (with_reducible repeat (first | refine blk_drewN ?_ _ | refine blk_drew ?_ | refine blk_alloc ?_ _)); refine blk_put (cs := #[.int .i64 ((rd_T32 x7_3 x13_3).f0), .int .i64 ((rd_T32 x7_3 x13_3).f1), .int .i64 ((rd_T32 x7_3 x13_3).f2), .int .i64 0]) ?_ 3 _ rfl; (with_reducible repeat (first | refine blk_drewN ?_ _ | refine blk_drew ?_ | refine blk_alloc ?_ _)); refine blk_put (cs := #[.int .i64 ((rd_T32 x7_3 x13_3).f0), .int .i64 ((rd_T32 x7_3 x13_3).f1), .int .i64 0, .int .i64 0]) ?_ 2 _ rfl; (with_reducible repeat (first | refine blk_drewN ?_ _ | refine blk_drew ?_ | refine blk_alloc ?_ _)); refine blk_put (cs := #[.int .i64 ((rd_T32 x7_3 x13_3).f0), .int .i64 0, .int .i64 0, .int .i64 0]) ?_ 1 _ rfl; (with_reducible repeat (first | refine blk_drewN ?_ _ | refine blk_drew ?_ | refine blk_alloc ?_ _)); refine blk_put (cs := #[.int .i64 0, .int .i64 0, .int .i64 0, .int .i64 0]) ?_ 0 _ rfl; (with_reducible repeat (first | refine blk_drewN ?_ _ | refine blk_drew ?_ | refine blk_alloc ?_ _)); exact BK136.out))⟩; have n2_ : Aside0 (IsS61 w0 w44 g s0_0 t134) := ⟨(by rw [hw]; exact (qq25 HI0.out NB0_136.out))⟩; have n3_ : Aside0 (KeepBut w w44 g none) := ⟨(by rw [hw]; exact (qq27 HK.out GW136.out))⟩; have n4_ : Aside0 (Below w0.heap.size w0 w44) := ⟨(by rw [hw]; exact (qq49 HB.out HI0.out GE136.out))⟩; clear hw; clear HO_7; clear BK136; clear HI0; clear HK; clear HB; have HO_7 := n0_; have BK136 := n1_; have HI0 := n2_; have HK := n3_; have HB := n4_; clear n0_ n1_ n2_ n3_ n4_; have hcz45_0 : w44.cell? ⟨gb136, 0, none⟩ = some (.int .i64 ((rd_T32 x7_3 x13_3).f0)) := (blk_cell BK136.out 0).trans rfl; have hcz45_1 : w44.cell? ⟨gb136, 1, none⟩ = some (.int .i64 ((rd_T32 x7_3 x13_3).f1)) := (blk_cell BK136.out 1).trans rfl; have hcz45_2 : w44.cell? ⟨gb136, 2, none⟩ = some (.int .i64 ((rd_T32 x7_3 x13_3).f2)) := (blk_cell BK136.out 2).trans rfl; have hcz45_3 : w44.cell? ⟨gb136, 3, none⟩ = some (.int .i64 ((rd_T32 x7_3 x13_3).f3)) := (blk_cell BK136.out 3).trans rfl; have hfz45_0 := blk_frozen BK136.out 0; have hfz45_1 := blk_frozen BK136.out 1; have hfz45_2 := blk_frozen BK136.out 2; have hfz45_3 := blk_frozen BK136.out 3; have p38 : 0 ≤ (x13_3 : Int) := of_decide_eq_true qq3; have q38 : (x13_3 : Int) < ((x7_3.length : Int) : Int) := of_decide_eq_true qq3; obtain ⟨go38, co38, eo38, gb38, gl38, cl38, HG38⟩ := Kd.R_form HO_7.out (by omega); (first | cases eo38 | (injection eo38 with ea_ en_ ec_; (first | subst ea_ | (injection ea_ with ea_; subst ea_)); subst ec_; clear en_)); have GB38 := Aside0.mk gb38; have GG38 := Aside0.mk HG38; clear gb38 gl38 HG38; (first | simp only [add_plain] at hx135_0 | skip); (first | simp only [add_plain] at hx135_1 | skip); (first | simp only [add_plain] at hx135_2 | skip); (first | simp only [add_plain] at hx135_3 | skip); obtain ⟨ce38, hcl38, hM38, hcc38, hfr38⟩ := Kd.R_elem HO_7.out z32 (x13_3 : Int) p38 q38; obtain rfl := k32_openM hM38; have hx38_0 : w44.cell? ⟨go38, (x13_3 : Int).toNat * 4, none⟩ = some (.int .i64 ((rd_T32 x7_3 x13_3).f0)) := hcc38 0 _ rfl; have hx38_1 : w44.cell? ⟨go38, (x13_3 : Int).toNat * 4 + 1, none⟩ = some (.int .i64 ((rd_T32 x7_3 x13_3).f1)) := hcc38 1 _ rfl; have hx38_2 : w44.cell? ⟨go38, (x13_3 : Int).toNat * 4 + 2, none⟩ = some (.int .i64 ((rd_T32 x7_3 x13_3).f2)) := hcc38 2 _ rfl; have hx38_3 : w44.cell? ⟨go38, (x13_3 : Int).toNat * 4 + 3, none⟩ = some (.int .i64 ((rd_T32 x7_3 x13_3).f3)) := hcc38 3 _ rfl; have hf38_0 : w44.frozen? ⟨go38, (x13_3 : Int).toNat * 4, none⟩ = false := hfr38 0; have hf38_1 : w44.frozen? ⟨go38, (x13_3 : Int).toNat * 4 + 1, none⟩ = false := hfr38 1; have hf38_2 : w44.frozen? ⟨go38, (x13_3 : Int).toNat * 4 + 2, none⟩ = false := hfr38 2; have hf38_3 : w44.frozen? ⟨go38, (x13_3 : Int).toNat * 4 + 3, none⟩ = false := hfr38 3; clear hcl38 hcc38 hfr38; (try clear hM38); replace p38 := eq_true p38; replace q38 := eq_true q38; have HX46 := Aside0.mk (show Kd.R k32 32 w44 w.heap.size (fun k_ => k_ ≠ gb136) (.slice (some ⟨go38, 0, none⟩) x7_3.length co39) x7_3 from (qq2 HO_7.out)); obtain ⟨ce46, hcl46, hM46, hcc46, hfr46⟩ := Kd.R_elem HX46.out z32 (x13_3 : Int) (of_decide_eq_true qq3) (by have h_ : (x13_3 : Int) < ((x7_3.length : Int) : Int) := of_decide_eq_true qq3; first | exact h_ | (have e_ := (Kd.R_reads' HO_7.out).1; omega) | simpa using h_); obtain rfl := k32_openM hM46; have HP46 := Kd.R_seg HX46.out (x13_3 : Int) (of_decide_eq_true qq3) (by have h_ : (x13_3 : Int) < ((x7_3.length : Int) : Int) := of_decide_eq_true qq3; first | exact h_ | (have e_ := (Kd.R_reads' HO_7.out).1; omega) | simpa using h_) (seg := [.int .i64 ((rd_T32 x7_3 x13_3).f1), .int .i64 ((rd_T32 x7_3 x13_3).f0), .int .i64 (wrap64 (-((rd_T32 x7_3 x13_3).f2))), .int .i64 ((rd_T32 x7_3 x13_3).f3)]) (j := 0) hcl46 hcc46 (show 4 ≤ 4 from by decide) (x' := (⟨(rd_T32 x7_3 x13_3).f1, (rd_T32 x7_3 x13_3).f0, wrap64 (-((rd_T32 x7_3 x13_3).f2)), (rd_T32 x7_3 x13_3).f3⟩ : S32)) (k32_mkM _ _ _ (⟨(rd_T32 x7_3 x13_3).f1, (rd_T32 x7_3 x13_3).f0, wrap64 (-((rd_T32 x7_3 x13_3).f2)), (rd_T32 x7_3 x13_3).f3⟩ : S32) ) (fun _ hk => hk); have hx46_0 := hcc46 0 _ rfl; (try simp only [show (k32).sz = 4 from rfl, Nat.mul_one, Nat.add_zero] at hx46_0); have hf46_0 := hfr46 0; (try simp only [show (k32).sz = 4 from rfl, Nat.mul_one, Nat.add_zero] at hf46_0); have hx46_1 := hcc46 1 _ rfl; (try simp only [show (k32).sz = 4 from rfl, Nat.mul_one, Nat.add_zero] at hx46_1); have hf46_1 := hfr46 1; (try simp only [show (k32).sz = 4 from rfl, Nat.mul_one, Nat.add_zero] at hf46_1); have hx46_2 := hcc46 2 _ rfl; (try simp only [show (k32).sz = 4 from rfl, Nat.mul_one, Nat.add_zero] at hx46_2); have hf46_2 := hfr46 2; (try simp only [show (k32).sz = 4 from rfl, Nat.mul_one, Nat.add_zero] at hf46_2); have hx46_3 := hcc46 3 _ rfl; (try simp only [show (k32).sz = 4 from rfl, Nat.mul_one, Nat.add_zero] at hx46_3); have hf46_3 := hfr46 3; (try simp only [show (k32).sz = 4 from rfl, Nat.mul_one, Nat.add_zero] at hf46_3); clear hcl46 hcc46 hfr46; (try clear hM46)) | ((with_reducible refine gate_store (t := 32) (p := 101) rfl ?_); refine store_event (t := 32) (p := 101) (v := ?vo_w47) (w1 := ((((w44.setCell ⟨go38, (x13_3 : Int).toNat * 4, none⟩ (.int .i64 ((rd_T32 x7_3 x13_3).f1))).setCell ⟨go38, (x13_3 : Int).toNat * 4 + 1, none⟩ (.int .i64 ((rd_T32 x7_3 x13_3).f0))).setCell ⟨go38, (x13_3 : Int).toNat * 4 + 2, none⟩ (.int .i64 (wrap64 (-((rd_T32 x7_3 x13_3).f2))))).setCell ⟨go38, (x13_3 : Int).toNat * 4 + 3, none⟩ (.int .i64 ((rd_T32 x7_3 x13_3).f3)))) ?hg ?ho ?hn ?hr ?_; (case ho => rfl); (case hg => rfl); (case hn => rfl); (case hr => exact qq16); intro w47 hw; have hg : w44.grownBy w47 (some go38) := (by rw [hw]; exact HP46.2); have hp_ : Kd.R k32 32 w47 w.heap.size (fun k_ => k_ ≠ gb136) (.slice (some ⟨go38, 0, none⟩) x7_3.length co39) y137 := (by rw [hw, Ny137.out]; exact HP46.1); clear HP46; have n0_ := Aside0.mk (hp_); have n1_ := Aside0.mk (IsS61.grown (qq25 HI0.out NB0_136.out) hg (IsS61.own_ne HI0.out HO_7.out (by decide))); have n2_ := Aside0.mk (blk_grown (g := gb136) (o := .cells #[.int .i64 ((rd_T32 x7_3 x13_3).f0), .int .i64 ((rd_T32 x7_3 x13_3).f1), .int .i64 ((rd_T32 x7_3 x13_3).f2), .int .i64 ((rd_T32 x7_3 x13_3).f3)] 32 (0, 0)) (qq23 BK136.out) hg (Kd.R_away HO_7.out (fun _ hk => hk))); have n3_ := Aside0.mk ((qq55 HB.out HL.out GB38.out : Below w0.heap.size w0 w47)); have n4_ := Aside0.mk (KeepBut.trans (qq27 HK.out GW136.out) (KeepBut.of_grown hg g) (Kd.R_base2 HO_7.out)); clear HO_7; clear HI0; clear BK136; clear HB; clear HK; have HO_7 := n0_; have HI0 := n1_; have BK136 := n2_; have HB := n3_; have HK := n4_; clear n0_ n1_ n2_ n3_ n4_; clear hg hw hp_))
                        go_roundg k3
                        case measure => have := HK1.out; have := HK2.out; have := HK3.out; omega
                        case rel => exact ⟨(y137), (wrap64 (x13_3 + 1)), (t134), qq13, H', ⟨qq54 HK1.out HK2.out HK3.out⟩, ⟨qq17 HO_7.out⟩, ⟨qq25 HI0.out NB0_136.out⟩, ⟨qq27 HK.out GW136.out⟩, ⟨qq49 HB.out HI0.out GE136.out⟩⟩
                      · rw [if_neg c37] at H
                        exact absurd H (by simp)
                    · rw [if_neg c36] at H
                      have c36b0 : (t133 == 0) = false := beq_eq_false_iff_ne.mpr c36
                      have c36b1 : (t133 != 0) = true := bne_iff_ne.mpr c36
                      have H' := Aside0.mk H
                      clear H
                      obtain ⟨Ao48, co48, eo48⟩ := Kd.R_slice HO_7.out
                      subst eo48
                      go_wp2_with (first | ((with_reducible refine gate_callee (f := 36) rfl ?_); refine goesL_ (some 83) rfl rfl Try.func36 (by kernel_rfl) rfl #[.pointer (some ⟨g, 0, none⟩), .int .i64 3] rfl qq5 ?_; (with_reducible refine (spec_l6Rd_pick.calls k3 g s0_0 x1001_3 3 t133 t134 w0 _ ?side1 ?side2 A35.out).mono ?_); (case side1 => exact qq9); (case side2 => exact qq8); rintro e w49 ⟨rfl, hi, hb, hk⟩; refine ⟨_, rfl, ?_⟩; have n0_ := Aside0.mk (Kd.R_mono (Kd.R_keep (IsS61.apart (show IsS61 w0 _ g s0_0 x1001_3 from by repeat (first | (with_reducible first | exact HI0.out | apply IsS61.alloc | apply IsS61.drewN | apply IsS61.drew | apply IsS61.set_1) | exact HI0.out)) (qq2 HO_7.out) (by decide)) hk (fun _ h => h.2)) (fun _ h => h.1)); have n1_ := Aside0.mk (KeepBut.trans qq6 hk (.inl rfl)); have n2_ := Aside0.mk (hb); have n3_ := Aside0.mk (hi); clear HO_7; clear HK; clear HB; clear HI0; have HO_7 := n0_; have HK := n1_; have HB := n2_; have HI0 := n3_; clear n0_ n1_ n2_ n3_; (try clear hb); (try clear hb2); (try clear hk); (try clear hi)))
                      go_roundg k3
                      case measure => have := HK1.out; have := HK2.out; have := HK3.out; omega
                      case rel => exact ⟨(x7_3), (wrap64 (x13_3 + 1)), (t134), qq13, H', ⟨qq54 HK1.out HK2.out HK3.out⟩, ⟨qq2 HO_7.out⟩, ⟨qq9⟩, ⟨qq6⟩, ⟨qq8⟩⟩
                  · rw [if_neg c34] at H
                    have c34b0 : decide (x13_3 < (x7_3.length : Int)) = false := decide_eq_false c34
                    clear c34
                    have HC50 := Aside0.mk H
                    clear H
                    obtain ⟨Ao51, co51, eo51⟩ := Kd.R_slice HO_7.out
                    subst eo51
                    go_upto_if 104 with (fail)
                    go_cut [] (fun wc => ∃ (kq : Nat) (x7_49 : List (S32)) (x1001_49 : Int), Aside0 (spec_l91Net.j3 kq (wrap64 (2 + t104)) x7_49 s0_0 x1001_49 = some (r1, r2, r3)) ∧ Aside0 (kq ≤ k3) ∧ Aside0 (Kd.R k32 32 wc w.heap.size (fun _ => True) (.slice Ao51 x7_3.length co51) x7_49) ∧ Aside0 (IsS61 w0 wc g s0_0 x1001_49) ∧ Aside0 (KeepBut w wc g none) ∧ Aside0 (Below w0.heap.size w0 wc))
                    case first =>
                      have H := HC50.out
                      clear HC50
                      by_cases c52 : (x7_3.length : Int) > 1
                      · rw [if_pos c52] at H
                        have c52b0 : decide (1 < (x7_3.length : Int)) = true := decide_eq_true c52
                        have c52b1 : decide (1 < x7_3.length) = true := decide_eq_true (by omega)
                        clear c52
                        (first | rw [c52b0] | (simp only [i64_w, i32_w]; rw [c52b0]) | skip)
                        replace H := Option.bind_eq_some_iff.mp H
                        obtain ⟨⟨t138, t139⟩, A530, H⟩ := H
                        replace H : (if 0 < (x7_3.length : Int) then (if 0 ≤ t138 then (if t138 < (x7_3.length : Int) then (spec_l91Net.j3 k3 (wrap64 (2 + t104)) ((x7_3.set (0 : Int).toNat (⟨(rd_T32 x7_3 t138).f0, (rd_T32 x7_3 t138).f1, (rd_T32 x7_3 t138).f2, (rd_T32 x7_3 t138).f3⟩ : S32)).set (t138 : Int).toNat (⟨(rd_T32 x7_3 0).f0, (rd_T32 x7_3 0).f1, (rd_T32 x7_3 0).f2, (rd_T32 x7_3 0).f3⟩ : S32)) s0_0 t139) else (none)) else (none)) else (none)) = some (r1, r2, r3) := H
                        have A53 := Aside0.mk A530
                        clear A530
                        by_cases c54 : 0 < (x7_3.length : Int)
                        · rw [if_pos c54] at H
                          have c54b0 : decide (0 < (x7_3.length : Int)) = true := decide_eq_true c54
                          have c54b1 : decide (0 < x7_3.length) = true := decide_eq_true (by omega)
                          clear c54
                          by_cases c55 : 0 ≤ t138
                          · rw [if_pos c55] at H
                            have c55b0 : decide (0 ≤ t138) = true := decide_eq_true c55
                            clear c55
                            by_cases c56 : t138 < (x7_3.length : Int)
                            · rw [if_pos c56] at H
                              have c56b0 : decide (t138 < (x7_3.length : Int)) = true := decide_eq_true c56
                              clear c56
                              obtain ⟨y143, hy143⟩ : ∃ y_ : List (S32), y_ = (x7_3.set (0 : Int).toNat (⟨(rd_T32 x7_3 t138).f0, (rd_T32 x7_3 t138).f1, (rd_T32 x7_3 t138).f2, (rd_T32 x7_3 t138).f3⟩ : S32)) := ⟨_, rfl⟩
                              replace H : (spec_l91Net.j3 k3 (wrap64 (2 + t104)) (y143.set (t138 : Int).toNat (⟨(rd_T32 x7_3 0).f0, (rd_T32 x7_3 0).f1, (rd_T32 x7_3 0).f2, (rd_T32 x7_3 0).f3⟩ : S32)) s0_0 t139) = some (r1, r2, r3) := by first | (rw [hy143]; with_reducible exact H) | (have H2_ := (Option.bind_some _ _).symm.trans H; rw [hy143]; with_reducible exact H2_) | (have H2_ := (Option.bind_some _ _).symm.trans H; with_reducible exact H2_) | with_reducible exact H | (rw [hy143]; exact H) | exact H
                              have Ny143 := Aside0.mk hy143
                              clear hy143
                              obtain ⟨y144, hy144⟩ : ∃ y_ : List (S32), y_ = (y143.set (t138 : Int).toNat (⟨(rd_T32 x7_3 0).f0, (rd_T32 x7_3 0).f1, (rd_T32 x7_3 0).f2, (rd_T32 x7_3 0).f3⟩ : S32)) := ⟨_, rfl⟩
                              replace H : (spec_l91Net.j3 k3 (wrap64 (2 + t104)) y144 s0_0 t139) = some (r1, r2, r3) := by first | (rw [hy144]; with_reducible exact H) | (have H2_ := (Option.bind_some _ _).symm.trans H; rw [hy144]; with_reducible exact H2_) | (have H2_ := (Option.bind_some _ _).symm.trans H; with_reducible exact H2_) | with_reducible exact H | (rw [hy144]; exact H) | exact H
                              have Ny144 := Aside0.mk hy144
                              clear hy144
                              have H' := Aside0.mk H
                              clear H
                              go_wp2_with (first | ((with_reducible refine gate_callee (f := 36) rfl ?_); refine goesL_ (some 108) rfl rfl Try.func36 (by kernel_rfl) rfl #[.pointer (some ⟨g, 0, none⟩), .int .i64 (x7_3.length : Int)] rfl qq5 ?_; (with_reducible refine (spec_l6Rd_pick.calls k3 g s0_0 x1001_3 (x7_3.length : Int) t138 t139 w0 _ ?side1 ?side2 A53.out).mono ?_); (case side1 => exact qq9); (case side2 => exact qq8); rintro e w59 ⟨rfl, hi, hb, hk⟩; refine ⟨_, rfl, ?_⟩; have n0_ := Aside0.mk (Kd.R_mono (Kd.R_keep (IsS61.apart (show IsS61 w0 _ g s0_0 x1001_3 from by repeat (first | (with_reducible first | exact HI0.out | apply IsS61.alloc | apply IsS61.drewN | apply IsS61.drew | apply IsS61.set_1) | exact HI0.out)) (qq2 HO_7.out) (by decide)) hk (fun _ h => h.2)) (fun _ h => h.1)); have n1_ := Aside0.mk (KeepBut.trans qq6 hk (.inl rfl)); have n2_ := Aside0.mk (hb); have n3_ := Aside0.mk (hi); clear HO_7; clear HK; clear HB; clear HI0; have HO_7 := n0_; have HK := n1_; have HB := n2_; have HI0 := n3_; clear n0_ n1_ n2_ n3_; (try clear hb); (try clear hb2); (try clear hk); (try clear hi); have p140 : 0 ≤ (0 : Int) := (by omega); have q140 : 0 < (x7_3.length : Int) := of_decide_eq_true qq3; obtain ⟨ad140, e140, hx140_0, hx140_1, hx140_2, hx140_3⟩ := at_T32 (Kd.R_reads' HO_7.out).2.2 0 p140 q140; cases e140; have qi140 : (0 < x7_3.length) = True := eq_true (by omega); (try rw [show ((0 : Int)).toNat = 0 from rfl] at hx140_0); (try rw [show 0 * 4 = 0 from rfl] at hx140_0); (try rw [Addr.add_zero'] at hx140_0); (try rw [show ((0 : Int)).toNat = 0 from rfl] at hx140_1); (try rw [show 0 * 4 = 0 from rfl] at hx140_1); (try rw [Addr.add_zero'] at hx140_1); (try rw [show ((0 : Int)).toNat = 0 from rfl] at hx140_2); (try rw [show 0 * 4 = 0 from rfl] at hx140_2); (try rw [Addr.add_zero'] at hx140_2); (try rw [show ((0 : Int)).toNat = 0 from rfl] at hx140_3); (try rw [show 0 * 4 = 0 from rfl] at hx140_3); (try rw [Addr.add_zero'] at hx140_3); replace p140 := eq_true p140; replace q140 := eq_true q140) | ((with_reducible refine gate_dst (N := 16) rfl ?_); refine box_event ?hg (N := 16) ?hd (cs := #[.int .i64 0, .int .i64 0, .int .i64 0, .int .i64 0]) (t := 32) ?hr ?_; (case hd => rfl); (case hg => rfl); (case hr => exact qq16); intro gb141 hg w60 hbox hb; have n0_ := Aside0.mk (Kd.R_below (Kd.R_elderB (qq2 HO_7.out) gb141 (Nat.le_of_eq hg.symm)) hb); have n1_ := Aside0.mk (IsS61.below qq9 hb); have n2_ := Aside0.mk (KeepBut.trans qq6 (KeepBut.of_below hb g none) (.inl rfl)); have n3_ := Aside0.mk (below_step qq8 hb); have n4_ := Aside0.mk (hbox); have n5_ := Aside0.mk ((qq63 : w.heap.size ≤ gb141)); have n6_ := Aside0.mk ((Nat.le_trans HW0.out (qq63 : w.heap.size ≤ gb141) : w0.heap.size ≤ gb141)); have n7_ := Aside0.mk ((by rw [hg]; exact Nat.ne_of_lt (IsS61.lt (show IsS61 w0 _ g s0_0 t139 from by repeat (first | (with_reducible first | exact HI0.out | apply IsS61.alloc | apply IsS61.drewN | apply IsS61.drew | apply IsS61.set_1) | exact HI0.out))) : g ≠ gb141)); have n8_ := Aside0.mk ((by rw [hg]; exact Nat.ne_of_gt (IsS61.lt (show IsS61 w0 _ g s0_0 t139 from by repeat (first | (with_reducible first | exact HI0.out | apply IsS61.alloc | apply IsS61.drewN | apply IsS61.drew | apply IsS61.set_1) | exact HI0.out))) : gb141 ≠ g)); clear HO_7; clear HI0; clear HK; clear HB; have HO_7 := n0_; have HI0 := n1_; have HK := n2_; have HB := n3_; have BK141 := n4_; have GW141 := n5_; have GE141 := n6_; have NB0_141 := n7_; have NB141_0 := n8_; clear n0_ n1_ n2_ n3_ n4_ n5_ n6_ n7_ n8_; clear hb hbox hg; have hnb61 := NB141_0.out; have hnc61 := NB0_141.out; have hcz62_0 : w60.cell? ⟨gb141, 0, none⟩ = some (.int .i64 0) := (blk_cell BK141.out 0).trans rfl; have hcz62_1 : w60.cell? ⟨gb141, 1, none⟩ = some (.int .i64 0) := (blk_cell BK141.out 1).trans rfl; have hcz62_2 : w60.cell? ⟨gb141, 2, none⟩ = some (.int .i64 0) := (blk_cell BK141.out 2).trans rfl; have hcz62_3 : w60.cell? ⟨gb141, 3, none⟩ = some (.int .i64 0) := (blk_cell BK141.out 3).trans rfl; have hfz62_0 := blk_frozen BK141.out 0; have hfz62_1 := blk_frozen BK141.out 1; have hfz62_2 := blk_frozen BK141.out 2; have hfz62_3 := blk_frozen BK141.out 3) | ((with_reducible refine gate_store (t := 32) (p := 16) rfl ?_); refine store_event (t := 32) (p := 16) (v := ?vo_w63) (w1 := ((((w60.setCell ⟨gb141, 0, none⟩ (.int .i64 ((rd_T32 x7_3 0).f0))).setCell ⟨gb141, 1, none⟩ (.int .i64 ((rd_T32 x7_3 0).f1))).setCell ⟨gb141, 2, none⟩ (.int .i64 ((rd_T32 x7_3 0).f2))).setCell ⟨gb141, 3, none⟩ (.int .i64 ((rd_T32 x7_3 0).f3)))) ?hg ?ho ?hn ?hr ?_; (case ho => rfl); (case hg => rfl); (case hn => rfl); (case hr => exact qq16); intro w63 hw; have n0_ : Aside0 (Kd.R k32 32 w63 w.heap.size (fun k_ => k_ ≠ gb141) (.slice (some ad140) x7_3.length co51) x7_3) := ⟨(by rw [hw]; exact (by (with_reducible repeat (first | apply Kd.R_alloc | apply Kd.R_drewN | apply Kd.R_drew)); exact Kd.R_mono (Kd.R_far (p := ⟨gb141, 3, none⟩) (Kd.R_far (p := ⟨gb141, 2, none⟩) (Kd.R_far (p := ⟨gb141, 1, none⟩) (Kd.R_far (p := ⟨gb141, 0, none⟩) (Kd.R_mono HO_7.out (fun k_ hk => (⟨hk, hk.2⟩ : _ ∧ k_ ≠ gb141))) (fun _ hk => hk.2) (.int .i64 ((rd_T32 x7_3 0).f0))) (fun _ hk => hk.2) (.int .i64 ((rd_T32 x7_3 0).f1))) (fun _ hk => hk.2) (.int .i64 ((rd_T32 x7_3 0).f2))) (fun _ hk => hk.2) (.int .i64 ((rd_T32 x7_3 0).f3))) (fun _ hk => hk.1.2)))⟩; have n1_ : Aside0 (w63.heap[gb141]? = some (.cells #[.int .i64 ((rd_T32 x7_3 0).f0), .int .i64 ((rd_T32 x7_3 0).f1), .int .i64 ((rd_T32 x7_3 0).f2), .int .i64 ((rd_T32 x7_3 0).f3)] 32 (0, 0))) := ⟨(by rw [hw]; exact (by (with_reducible repeat (first | refine blk_drewN ?_ _ | refine blk_drew ?_ | refine blk_alloc ?_ _)); refine blk_put (cs := #[.int .i64 ((rd_T32 x7_3 0).f0), .int .i64 ((rd_T32 x7_3 0).f1), .int .i64 ((rd_T32 x7_3 0).f2), .int .i64 0]) ?_ 3 _ rfl; (with_reducible repeat (first | refine blk_drewN ?_ _ | refine blk_drew ?_ | refine blk_alloc ?_ _)); refine blk_put (cs := #[.int .i64 ((rd_T32 x7_3 0).f0), .int .i64 ((rd_T32 x7_3 0).f1), .int .i64 0, .int .i64 0]) ?_ 2 _ rfl; (with_reducible repeat (first | refine blk_drewN ?_ _ | refine blk_drew ?_ | refine blk_alloc ?_ _)); refine blk_put (cs := #[.int .i64 ((rd_T32 x7_3 0).f0), .int .i64 0, .int .i64 0, .int .i64 0]) ?_ 1 _ rfl; (with_reducible repeat (first | refine blk_drewN ?_ _ | refine blk_drew ?_ | refine blk_alloc ?_ _)); refine blk_put (cs := #[.int .i64 0, .int .i64 0, .int .i64 0, .int .i64 0]) ?_ 0 _ rfl; (with_reducible repeat (first | refine blk_drewN ?_ _ | refine blk_drew ?_ | refine blk_alloc ?_ _)); exact BK141.out))⟩; have n2_ : Aside0 (IsS61 w0 w63 g s0_0 t139) := ⟨(by rw [hw]; exact (qq25 HI0.out NB0_141.out))⟩; have n3_ : Aside0 (KeepBut w w63 g none) := ⟨(by rw [hw]; exact (qq27 HK.out GW141.out))⟩; have n4_ : Aside0 (Below w0.heap.size w0 w63) := ⟨(by rw [hw]; exact (qq49 HB.out HI0.out GE141.out))⟩; clear hw; clear HO_7; clear BK141; clear HI0; clear HK; clear HB; have HO_7 := n0_; have BK141 := n1_; have HI0 := n2_; have HK := n3_; have HB := n4_; clear n0_ n1_ n2_ n3_ n4_; have p142 : 0 ≤ (t138 : Int) := of_decide_eq_true qq3; have q142 : t138 < (x7_3.length : Int) := of_decide_eq_true qq3; obtain ⟨ad142, e142, hx142_0, hx142_1, hx142_2, hx142_3⟩ := at_T32 (Kd.R_reads' HO_7.out).2.2 t138 p142 q142; obtain rfl : ad140 = ad142 := (by injection e142); replace p142 := eq_true p142; replace q142 := eq_true q142; have p57 : 0 ≤ (0 : Int) := (by omega); have q57 : (0 : Int) < ((x7_3.length : Int) : Int) := of_decide_eq_true qq3; have qi57 : (0 < x7_3.length) = True := eq_true (by omega); obtain ⟨go57, co57, eo57, gb57, gl57, cl57, HG57⟩ := Kd.R_form HO_7.out (by omega); (first | cases eo57 | (injection eo57 with ea_ en_ ec_; (first | subst ea_ | (injection ea_ with ea_; subst ea_)); subst ec_; clear en_)); have GB57 := Aside0.mk gb57; have GG57 := Aside0.mk HG57; clear gb57 gl57 HG57; (first | simp only [add_plain] at hx140_0 | skip); (first | simp only [add_plain] at hx140_1 | skip); (first | simp only [add_plain] at hx140_2 | skip); (first | simp only [add_plain] at hx140_3 | skip); (first | simp only [add_plain] at hx142_0 | skip); (first | simp only [add_plain] at hx142_1 | skip); (first | simp only [add_plain] at hx142_2 | skip); (first | simp only [add_plain] at hx142_3 | skip); obtain ⟨ce57, hcl57, hM57, hcc57, hfr57⟩ := Kd.R_elem HO_7.out z32 (0 : Int) p57 q57; obtain rfl := k32_openM hM57; have hx57_0 : w63.cell? ⟨go57, (0 : Int).toNat * 4, none⟩ = some (.int .i64 ((rd_T32 x7_3 0).f0)) := hcc57 0 _ rfl; have hx57_1 : w63.cell? ⟨go57, (0 : Int).toNat * 4 + 1, none⟩ = some (.int .i64 ((rd_T32 x7_3 0).f1)) := hcc57 1 _ rfl; have hx57_2 : w63.cell? ⟨go57, (0 : Int).toNat * 4 + 2, none⟩ = some (.int .i64 ((rd_T32 x7_3 0).f2)) := hcc57 2 _ rfl; have hx57_3 : w63.cell? ⟨go57, (0 : Int).toNat * 4 + 3, none⟩ = some (.int .i64 ((rd_T32 x7_3 0).f3)) := hcc57 3 _ rfl; have hf57_0 : w63.frozen? ⟨go57, (0 : Int).toNat * 4, none⟩ = false := hfr57 0; have hf57_1 : w63.frozen? ⟨go57, (0 : Int).toNat * 4 + 1, none⟩ = false := hfr57 1; have hf57_2 : w63.frozen? ⟨go57, (0 : Int).toNat * 4 + 2, none⟩ = false := hfr57 2; have hf57_3 : w63.frozen? ⟨go57, (0 : Int).toNat * 4 + 3, none⟩ = false := hfr57 3; clear hcl57 hcc57 hfr57; (try clear hM57); (try rw [show ((0 : Int)).toNat = 0 from rfl] at hx57_0); (try simp only [Nat.reduceMul, Nat.zero_mul, Nat.zero_add, Nat.reduceAdd] at hx57_0); (try rw [show ((0 : Int)).toNat = 0 from rfl] at hf57_0); (try simp only [Nat.reduceMul, Nat.zero_mul, Nat.zero_add, Nat.reduceAdd] at hf57_0); (try rw [show ((0 : Int)).toNat = 0 from rfl] at hx57_1); (try simp only [Nat.reduceMul, Nat.zero_mul, Nat.zero_add, Nat.reduceAdd] at hx57_1); (try rw [show ((0 : Int)).toNat = 0 from rfl] at hf57_1); (try simp only [Nat.reduceMul, Nat.zero_mul, Nat.zero_add, Nat.reduceAdd] at hf57_1); (try rw [show ((0 : Int)).toNat = 0 from rfl] at hx57_2); (try simp only [Nat.reduceMul, Nat.zero_mul, Nat.zero_add, Nat.reduceAdd] at hx57_2); (try rw [show ((0 : Int)).toNat = 0 from rfl] at hf57_2); (try simp only [Nat.reduceMul, Nat.zero_mul, Nat.zero_add, Nat.reduceAdd] at hf57_2); (try rw [show ((0 : Int)).toNat = 0 from rfl] at hx57_3); (try simp only [Nat.reduceMul, Nat.zero_mul, Nat.zero_add, Nat.reduceAdd] at hx57_3); (try rw [show ((0 : Int)).toNat = 0 from rfl] at hf57_3); (try simp only [Nat.reduceMul, Nat.zero_mul, Nat.zero_add, Nat.reduceAdd] at hf57_3); replace p57 := eq_true p57; replace q57 := eq_true q57; have HX64 := Aside0.mk (show Kd.R k32 32 w63 w.heap.size (fun k_ => k_ ≠ gb141) (.slice (some ⟨go57, 0, none⟩) x7_3.length co51) x7_3 from (qq2 HO_7.out)); obtain ⟨ce64, hcl64, hM64, hcc64, hfr64⟩ := Kd.R_elem HX64.out z32 (0 : Int) (by omega) (by have h_ : (0 : Int) < ((x7_3.length : Int) : Int) := of_decide_eq_true qq3; first | exact h_ | (have e_ := (Kd.R_reads' HO_7.out).1; omega) | simpa using h_); obtain rfl := k32_openM hM64; have HP64 := Kd.R_seg HX64.out (0 : Int) (by omega) (by have h_ : (0 : Int) < ((x7_3.length : Int) : Int) := of_decide_eq_true qq3; first | exact h_ | (have e_ := (Kd.R_reads' HO_7.out).1; omega) | simpa using h_) (seg := [.int .i64 ((rd_T32 x7_3 t138).f0), .int .i64 ((rd_T32 x7_3 t138).f1), .int .i64 ((rd_T32 x7_3 t138).f2), .int .i64 ((rd_T32 x7_3 t138).f3)]) (j := 0) hcl64 hcc64 (show 4 ≤ 4 from by decide) (x' := (⟨(rd_T32 x7_3 t138).f0, (rd_T32 x7_3 t138).f1, (rd_T32 x7_3 t138).f2, (rd_T32 x7_3 t138).f3⟩ : S32)) (k32_mkM _ _ _ (⟨(rd_T32 x7_3 t138).f0, (rd_T32 x7_3 t138).f1, (rd_T32 x7_3 t138).f2, (rd_T32 x7_3 t138).f3⟩ : S32) ) (fun _ hk => hk); have hx64_0 := hcc64 0 _ rfl; (try simp only [show (k32).sz = 4 from rfl, Nat.mul_one, Nat.add_zero] at hx64_0); (try rw [show ((0 : Int)).toNat = 0 from rfl] at hx64_0); (try simp only [Nat.reduceMul, Nat.zero_mul, Nat.zero_add, Nat.reduceAdd] at hx64_0); have hf64_0 := hfr64 0; (try simp only [show (k32).sz = 4 from rfl, Nat.mul_one, Nat.add_zero] at hf64_0); (try rw [show ((0 : Int)).toNat = 0 from rfl] at hf64_0); (try simp only [Nat.reduceMul, Nat.zero_mul, Nat.zero_add, Nat.reduceAdd] at hf64_0); have hx64_1 := hcc64 1 _ rfl; (try simp only [show (k32).sz = 4 from rfl, Nat.mul_one, Nat.add_zero] at hx64_1); (try rw [show ((0 : Int)).toNat = 0 from rfl] at hx64_1); (try simp only [Nat.reduceMul, Nat.zero_mul, Nat.zero_add, Nat.reduceAdd] at hx64_1); have hf64_1 := hfr64 1; (try simp only [show (k32).sz = 4 from rfl, Nat.mul_one, Nat.add_zero] at hf64_1); (try rw [show ((0 : Int)).toNat = 0 from rfl] at hf64_1); (try simp only [Nat.reduceMul, Nat.zero_mul, Nat.zero_add, Nat.reduceAdd] at hf64_1); have hx64_2 := hcc64 2 _ rfl; (try simp only [show (k32).sz = 4 from rfl, Nat.mul_one, Nat.add_zero] at hx64_2); (try rw [show ((0 : Int)).toNat = 0 from rfl] at hx64_2); (try simp only [Nat.reduceMul, Nat.zero_mul, Nat.zero_add, Nat.reduceAdd] at hx64_2); have hf64_2 := hfr64 2; (try simp only [show (k32).sz = 4 from rfl, Nat.mul_one, Nat.add_zero] at hf64_2); (try rw [show ((0 : Int)).toNat = 0 from rfl] at hf64_2); (try simp only [Nat.reduceMul, Nat.zero_mul, Nat.zero_add, Nat.reduceAdd] at hf64_2); have hx64_3 := hcc64 3 _ rfl; (try simp only [show (k32).sz = 4 from rfl, Nat.mul_one, Nat.add_zero] at hx64_3); (try rw [show ((0 : Int)).toNat = 0 from rfl] at hx64_3); (try simp only [Nat.reduceMul, Nat.zero_mul, Nat.zero_add, Nat.reduceAdd] at hx64_3); have hf64_3 := hfr64 3; (try simp only [show (k32).sz = 4 from rfl, Nat.mul_one, Nat.add_zero] at hf64_3); (try rw [show ((0 : Int)).toNat = 0 from rfl] at hf64_3); (try simp only [Nat.reduceMul, Nat.zero_mul, Nat.zero_add, Nat.reduceAdd] at hf64_3); clear hcl64 hcc64 hfr64; (try clear hM64)) | ((with_reducible refine gate_store (t := 32) (p := 117) rfl ?_); refine store_event (t := 32) (p := 117) (v := ?vo_w65) (w1 := ((((w63.setCell ⟨go57, 0, none⟩ (.int .i64 ((rd_T32 x7_3 t138).f0))).setCell ⟨go57, 1, none⟩ (.int .i64 ((rd_T32 x7_3 t138).f1))).setCell ⟨go57, 2, none⟩ (.int .i64 ((rd_T32 x7_3 t138).f2))).setCell ⟨go57, 3, none⟩ (.int .i64 ((rd_T32 x7_3 t138).f3)))) ?hg ?ho ?hn ?hr ?_; (case ho => rfl); (case hg => rfl); (case hn => rfl); (case hr => exact qq16); intro w65 hw; have hg : w63.grownBy w65 (some go57) := (by rw [hw]; exact HP64.2); have hp_ : Kd.R k32 32 w65 w.heap.size (fun k_ => k_ ≠ gb141) (.slice (some ⟨go57, 0, none⟩) x7_3.length co51) y143 := (by rw [hw, Ny143.out]; exact HP64.1); clear HP64; have n0_ := Aside0.mk (hp_); have n1_ := Aside0.mk (IsS61.grown (qq25 HI0.out NB0_141.out) hg (IsS61.own_ne HI0.out HO_7.out (by decide))); have n2_ := Aside0.mk (blk_grown (g := gb141) (o := .cells #[.int .i64 ((rd_T32 x7_3 0).f0), .int .i64 ((rd_T32 x7_3 0).f1), .int .i64 ((rd_T32 x7_3 0).f2), .int .i64 ((rd_T32 x7_3 0).f3)] 32 (0, 0)) (qq23 BK141.out) hg (Kd.R_away HO_7.out (fun _ hk => hk))); have n3_ := Aside0.mk ((qq55 HB.out HL.out GB57.out : Below w0.heap.size w0 w65)); have n4_ := Aside0.mk (KeepBut.trans (qq27 HK.out GW141.out) (KeepBut.of_grown hg g) (Kd.R_base2 HO_7.out)); clear HO_7; clear HI0; clear BK141; clear HB; clear HK; have HO_7 := n0_; have HI0 := n1_; have BK141 := n2_; have HB := n3_; have HK := n4_; clear n0_ n1_ n2_ n3_ n4_; clear hg hw hp_; have hcz66_0 : w65.cell? ⟨gb141, 0, none⟩ = some (.int .i64 ((rd_T32 x7_3 0).f0)) := (blk_cell BK141.out 0).trans rfl; have hcz66_1 : w65.cell? ⟨gb141, 1, none⟩ = some (.int .i64 ((rd_T32 x7_3 0).f1)) := (blk_cell BK141.out 1).trans rfl; have hcz66_2 : w65.cell? ⟨gb141, 2, none⟩ = some (.int .i64 ((rd_T32 x7_3 0).f2)) := (blk_cell BK141.out 2).trans rfl; have hcz66_3 : w65.cell? ⟨gb141, 3, none⟩ = some (.int .i64 ((rd_T32 x7_3 0).f3)) := (blk_cell BK141.out 3).trans rfl; have hfz66_0 := blk_frozen BK141.out 0; have hfz66_1 := blk_frozen BK141.out 1; have hfz66_2 := blk_frozen BK141.out 2; have hfz66_3 := blk_frozen BK141.out 3; have p58 : 0 ≤ (t138 : Int) := of_decide_eq_true qq3; have q58 : (t138 : Int) < ((x7_3.length : Int) : Int) := of_decide_eq_true qq3; obtain ⟨ce58, hcl58, hM58, hcc58, hfr58⟩ := Kd.R_elem HO_7.out z32 (t138 : Int) p58 q58; obtain rfl := k32_openM hM58; have hx58_0 : w65.cell? ⟨go57, (t138 : Int).toNat * 4, none⟩ = some (.int .i64 ((rd_T32 y143 t138).f0)) := hcc58 0 _ rfl; have hx58_1 : w65.cell? ⟨go57, (t138 : Int).toNat * 4 + 1, none⟩ = some (.int .i64 ((rd_T32 y143 t138).f1)) := hcc58 1 _ rfl; have hx58_2 : w65.cell? ⟨go57, (t138 : Int).toNat * 4 + 2, none⟩ = some (.int .i64 ((rd_T32 y143 t138).f2)) := hcc58 2 _ rfl; have hx58_3 : w65.cell? ⟨go57, (t138 : Int).toNat * 4 + 3, none⟩ = some (.int .i64 ((rd_T32 y143 t138).f3)) := hcc58 3 _ rfl; have hf58_0 : w65.frozen? ⟨go57, (t138 : Int).toNat * 4, none⟩ = false := hfr58 0; have hf58_1 : w65.frozen? ⟨go57, (t138 : Int).toNat * 4 + 1, none⟩ = false := hfr58 1; have hf58_2 : w65.frozen? ⟨go57, (t138 : Int).toNat * 4 + 2, none⟩ = false := hfr58 2; have hf58_3 : w65.frozen? ⟨go57, (t138 : Int).toNat * 4 + 3, none⟩ = false := hfr58 3; clear hcl58 hcc58 hfr58; (try clear hM58); replace p58 := eq_true p58; replace q58 := eq_true q58; have HX67 := Aside0.mk (show Kd.R k32 32 w65 w.heap.size (fun k_ => k_ ≠ gb141) (.slice (some ⟨go57, 0, none⟩) x7_3.length co51) y143 from (qq2 HO_7.out)); obtain ⟨ce67, hcl67, hM67, hcc67, hfr67⟩ := Kd.R_elem HX67.out z32 (t138 : Int) (of_decide_eq_true qq3) (by have h_ : (t138 : Int) < ((x7_3.length : Int) : Int) := of_decide_eq_true qq3; first | exact h_ | (have e_ := (Kd.R_reads' HO_7.out).1; omega) | simpa using h_); obtain rfl := k32_openM hM67; have HP67 := Kd.R_seg HX67.out (t138 : Int) (of_decide_eq_true qq3) (by have h_ : (t138 : Int) < ((x7_3.length : Int) : Int) := of_decide_eq_true qq3; first | exact h_ | (have e_ := (Kd.R_reads' HO_7.out).1; omega) | simpa using h_) (seg := [.int .i64 ((rd_T32 x7_3 0).f0), .int .i64 ((rd_T32 x7_3 0).f1), .int .i64 ((rd_T32 x7_3 0).f2), .int .i64 ((rd_T32 x7_3 0).f3)]) (j := 0) hcl67 hcc67 (show 4 ≤ 4 from by decide) (x' := (⟨(rd_T32 x7_3 0).f0, (rd_T32 x7_3 0).f1, (rd_T32 x7_3 0).f2, (rd_T32 x7_3 0).f3⟩ : S32)) (k32_mkM _ _ _ (⟨(rd_T32 x7_3 0).f0, (rd_T32 x7_3 0).f1, (rd_T32 x7_3 0).f2, (rd_T32 x7_3 0).f3⟩ : S32) ) (fun _ hk => hk); have hx67_0 := hcc67 0 _ rfl; (try simp only [show (k32).sz = 4 from rfl, Nat.mul_one, Nat.add_zero] at hx67_0); have hf67_0 := hfr67 0; (try simp only [show (k32).sz = 4 from rfl, Nat.mul_one, Nat.add_zero] at hf67_0); have hx67_1 := hcc67 1 _ rfl; (try simp only [show (k32).sz = 4 from rfl, Nat.mul_one, Nat.add_zero] at hx67_1); have hf67_1 := hfr67 1; (try simp only [show (k32).sz = 4 from rfl, Nat.mul_one, Nat.add_zero] at hf67_1); have hx67_2 := hcc67 2 _ rfl; (try simp only [show (k32).sz = 4 from rfl, Nat.mul_one, Nat.add_zero] at hx67_2); have hf67_2 := hfr67 2; (try simp only [show (k32).sz = 4 from rfl, Nat.mul_one, Nat.add_zero] at hf67_2); have hx67_3 := hcc67 3 _ rfl; (try simp only [show (k32).sz = 4 from rfl, Nat.mul_one, Nat.add_zero] at hx67_3); have hf67_3 := hfr67 3; (try simp only [show (k32).sz = 4 from rfl, Nat.mul_one, Nat.add_zero] at hf67_3); clear hcl67 hcc67 hfr67; (try clear hM67)) | ((with_reducible refine gate_store (t := 32) (p := 121) rfl ?_); refine store_event (t := 32) (p := 121) (v := ?vo_w68) (w1 := ((((w65.setCell ⟨go57, (t138 : Int).toNat * 4, none⟩ (.int .i64 ((rd_T32 x7_3 0).f0))).setCell ⟨go57, (t138 : Int).toNat * 4 + 1, none⟩ (.int .i64 ((rd_T32 x7_3 0).f1))).setCell ⟨go57, (t138 : Int).toNat * 4 + 2, none⟩ (.int .i64 ((rd_T32 x7_3 0).f2))).setCell ⟨go57, (t138 : Int).toNat * 4 + 3, none⟩ (.int .i64 ((rd_T32 x7_3 0).f3)))) ?hg ?ho ?hn ?hr ?_; (case ho => rfl); (case hg => rfl); (case hn => rfl); (case hr => exact qq16); intro w68 hw; have hg : w65.grownBy w68 (some go57) := (by rw [hw]; exact HP67.2); have hp_ : Kd.R k32 32 w68 w.heap.size (fun k_ => k_ ≠ gb141) (.slice (some ⟨go57, 0, none⟩) x7_3.length co51) y144 := (by rw [hw, Ny144.out]; exact HP67.1); clear HP67; have n0_ := Aside0.mk (hp_); have n1_ := Aside0.mk (IsS61.grown (qq25 HI0.out NB0_141.out) hg (IsS61.own_ne HI0.out HO_7.out (by decide))); have n2_ := Aside0.mk (blk_grown (g := gb141) (o := .cells #[.int .i64 ((rd_T32 x7_3 0).f0), .int .i64 ((rd_T32 x7_3 0).f1), .int .i64 ((rd_T32 x7_3 0).f2), .int .i64 ((rd_T32 x7_3 0).f3)] 32 (0, 0)) (qq23 BK141.out) hg (Kd.R_away HO_7.out (fun _ hk => hk))); have n3_ := Aside0.mk ((qq55 HB.out HL.out GB57.out : Below w0.heap.size w0 w68)); have n4_ := Aside0.mk (KeepBut.trans (qq27 HK.out GW141.out) (KeepBut.of_grown hg g) (Kd.R_base2 HO_7.out)); clear HO_7; clear HI0; clear BK141; clear HB; clear HK; have HO_7 := n0_; have HI0 := n1_; have BK141 := n2_; have HB := n3_; have HK := n4_; clear n0_ n1_ n2_ n3_ n4_; clear hg hw hp_))
                              go_meet
                              case rel => exact ⟨_, (y144), (t139), H', ⟨qq80⟩, ⟨qq17 HO_7.out⟩, ⟨qq25 HI0.out NB0_141.out⟩, ⟨qq27 HK.out GW141.out⟩, ⟨qq49 HB.out HI0.out GE141.out⟩⟩
                            · rw [if_neg c56] at H
                              exact absurd H (by simp)
                          · rw [if_neg c55] at H
                            exact absurd H (by simp)
                        · rw [if_neg c54] at H
                          exact absurd H (by simp)
                      · rw [if_neg c52] at H
                        have c52b0 : decide (1 < (x7_3.length : Int)) = false := decide_eq_false c52
                        have c52b1 : decide (1 < x7_3.length) = false := decide_eq_false (by omega)
                        clear c52
                        (first | rw [c52b0] | (simp only [i64_w, i32_w]; rw [c52b0]) | skip)
                        have H' := Aside0.mk H
                        clear H
                        go_wp2
                        go_meet
                        case rel => exact ⟨_, (x7_3), (x1001_3), H', ⟨qq80⟩, ⟨qq2 HO_7.out⟩, ⟨qq9⟩, ⟨qq6⟩, ⟨qq8⟩⟩
                    case rest =>
                      clear HC50
                      try clear c1
                      try clear p1
                      try clear q1
                      try clear hx1
                      try clear qi1
                      try clear c2
                      try clear p2
                      try clear c3
                      try clear p3
                      try clear q3
                      try clear hx3
                      try clear hf3
                      try clear c4
                      try clear hx4
                      try clear hf4
                      try clear c5
                      try clear p5
                      try clear q5
                      try clear hx5
                      try clear qi5
                      try clear hf5
                      try clear c6
                      try clear p6
                      try clear hx6
                      try clear hf6
                      try clear c7
                      try clear c7b0
                      try clear c9
                      try clear c9b0
                      try clear c13
                      try clear p13
                      try clear q13
                      try clear hx13
                      try clear p14
                      try clear q14
                      try clear hx14
                      try clear qi14
                      try clear c22
                      try clear c22b0
                      try clear c25
                      try clear c25b0
                      try clear c25b1
                      try clear c28
                      try clear c34
                      try clear c34b0
                      try clear c36
                      try clear c36b0
                      try clear c36b1
                      try clear c37
                      try clear c37b0
                      try clear c38
                      try clear p38
                      try clear q38
                      try clear hx38
                      try clear hf38
                      try clear c42
                      try clear c44
                      try clear c46
                      try clear hx46
                      try clear hf46
                      try clear c52
                      try clear c52b0
                      try clear c52b1
                      try clear c54
                      try clear c54b0
                      try clear c54b1
                      try clear c55
                      try clear c55b0
                      try clear c56
                      try clear c56b0
                      try clear c57
                      try clear p57
                      try clear q57
                      try clear hx57
                      try clear qi57
                      try clear hf57
                      try clear c58
                      try clear p58
                      try clear q58
                      try clear hx58
                      try clear hf58
                      try clear c61
                      try clear c64
                      try clear p64
                      try clear hx64
                      try clear hf64
                      try clear c67
                      try clear hx67
                      try clear hf67
                      try clear hcz43_0
                      try clear hcz43_1
                      try clear hcz43_2
                      try clear hcz43_3
                      try clear hcz45_0
                      try clear hcz45_1
                      try clear hcz45_2
                      try clear hcz45_3
                      try clear hcz62_0
                      try clear hcz62_1
                      try clear hcz62_2
                      try clear hcz62_3
                      try clear hcz66_0
                      try clear hcz66_1
                      try clear hcz66_2
                      try clear hcz66_3
                      try clear hfz43_0
                      try clear hfz43_1
                      try clear hfz43_2
                      try clear hfz43_3
                      try clear hfz45_0
                      try clear hfz45_1
                      try clear hfz45_2
                      try clear hfz45_3
                      try clear hfz62_0
                      try clear hfz62_1
                      try clear hfz62_2
                      try clear hfz62_3
                      try clear hfz66_0
                      try clear hfz66_1
                      try clear hfz66_2
                      try clear hfz66_3
                      try clear hx135_0
                      try clear hx135_1
                      try clear hx135_2
                      try clear hx135_3
                      try clear hx140_0
                      try clear hx140_1
                      try clear hx140_2
                      try clear hx140_3
                      try clear hx142_0
                      try clear hx142_1
                      try clear hx142_2
                      try clear hx142_3
                      try clear hx38_0
                      try clear hx38_1
                      try clear hx38_2
                      try clear hx38_3
                      try clear hx46_0
                      try clear hx46_1
                      try clear hx46_2
                      try clear hx46_3
                      try clear hx57_0
                      try clear hx57_1
                      try clear hx57_2
                      try clear hx57_3
                      try clear hx58_0
                      try clear hx58_1
                      try clear hx58_2
                      try clear hx58_3
                      try clear hx64_0
                      try clear hx64_1
                      try clear hx64_2
                      try clear hx64_3
                      try clear hx67_0
                      try clear hx67_1
                      try clear hx67_2
                      try clear hx67_3
                      try clear p135
                      try clear p140
                      try clear p142
                      try clear p2
                      try clear p38
                      try clear p57
                      try clear p58
                      try clear p6
                      try clear q135
                      try clear q140
                      try clear q142
                      try clear q38
                      try clear q57
                      try clear q58
                      obtain ⟨kq, x7_49, x1001_49, HA, HJ49, HO_7, HI0, HK, HB⟩ := hcut
                      have hl7_49 := (Kd.R_reads' HO_7.out).1
                      rw [hl7_49] at HO_7
                      (try simp only [hl7_49])
                      cases kq with
                      | zero => exact absurd HA.out (by simp [spec_l91Net.j3])
                      | succ kj49 =>
                        have H := HA.out
                        clear HA
                        simp only [spec_l91Net.j3] at H
                        by_cases c69 : (x7_49.length : Int) > 0
                        · rw [if_pos c69] at H
                          have c69b0 : decide (0 < (x7_49.length : Int)) = true := decide_eq_true c69
                          have c69b1 : decide (0 < x7_49.length) = true := decide_eq_true (by omega)
                          clear c69
                          replace H := Option.bind_eq_some_iff.mp H
                          obtain ⟨⟨t145, t146⟩, A700, H⟩ := H
                          replace H : (if t145 = 0 then (if 0 < (x7_49.length : Int) then (some ((wrap64 (2 + t104)), (x7_49.set (0 : Int).toNat (⟨(rd_T32 x7_49 0).f0, (rd_T32 x7_49 0).f0, (rd_T32 x7_49 0).f2, (rd_T32 x7_49 0).f3⟩ : S32)), t146)) else (none)) else (if t145 = 1 then ((some (([0, 10] : List Int) : List Int)).bind fun y149 => ((spec_l6Rd_pick.f kj49 s0_0 t146 2).bind fun bt152 => (if 0 ≤ bt152.1 then (if bt152.1 < (y149.length : Int) then (if 0 < (x7_49.length : Int) then (some ((wrap64 (2 + t104)), (x7_49.set (0 : Int).toNat (⟨(rd_T32 x7_49 0).f0, (rd_T32 x7_49 0).f1, (rd_T32 x7_49 0).f2, rd y149 bt152.1⟩ : S32)), bt152.2)) else (none)) else (none)) else (none)))) else (if t145 = 2 then (if 0 < (x7_49.length : Int) then (some ((wrap64 (2 + t104)), (x7_49.set (0 : Int).toNat (⟨(rd_T32 x7_49 0).f0, (rd_T32 x7_49 0).f1, 100001, (rd_T32 x7_49 0).f3⟩ : S32)), t146)) else (none)) else (if t145 = 3 then (if 0 < (x7_49.length : Int) then (some ((wrap64 (2 + t104)), (x7_49.set (0 : Int).toNat (⟨(rd_T32 x7_49 0).f0, (wrap64 (2 + t104)), (rd_T32 x7_49 0).f2, (rd_T32 x7_49 0).f3⟩ : S32)), t146)) else (none)) else (some ((wrap64 (2 + t104)), x7_49, t146)))))) = some (r1, r2, r3) := H
                          have A70 := Aside0.mk A700
                          clear A700
                          by_cases c71 : t145 = 0
                          · rw [if_pos c71] at H
                            have c71b0 : (t145 == 0) = true := beq_iff_eq.mpr c71
                            have c71b1 : (t145 != 0) = false := bne_eq_false_iff_eq.mpr c71
                            clear c71
                            by_cases c72 : 0 < (x7_49.length : Int)
                            · rw [if_pos c72] at H
                              have c72b0 : decide (0 < (x7_49.length : Int)) = true := decide_eq_true c72
                              have c72b1 : decide (0 < x7_49.length) = true := decide_eq_true (by omega)
                              clear c72
                              obtain ⟨y148, hy148⟩ : ∃ y_ : List (S32), y_ = (x7_49.set (0 : Int).toNat (⟨(rd_T32 x7_49 0).f0, (rd_T32 x7_49 0).f0, (rd_T32 x7_49 0).f2, (rd_T32 x7_49 0).f3⟩ : S32)) := ⟨_, rfl⟩
                              replace H : (some ((wrap64 (2 + t104)), y148, t146)) = some (r1, r2, r3) := by first | (rw [hy148]; with_reducible exact H) | (have H2_ := (Option.bind_some _ _).symm.trans H; rw [hy148]; with_reducible exact H2_) | (have H2_ := (Option.bind_some _ _).symm.trans H; with_reducible exact H2_) | with_reducible exact H | (rw [hy148]; exact H) | exact H
                              have Ny148 := Aside0.mk hy148
                              clear hy148
                              simp only [Option.some.injEq, Prod.mk.injEq] at H
                              obtain ⟨rfl, rfl, rfl⟩ := H
                              go_wp2_with (first | ((with_reducible refine gate_callee (f := 36) rfl ?_); refine goesL_ (some 126) rfl rfl Try.func36 (by kernel_rfl) rfl #[.pointer (some ⟨g, 0, none⟩), .int .i64 50] rfl qq5 ?_; (with_reducible refine (spec_l6Rd_pick.calls kj49 g s0_0 x1001_49 50 t145 t146 w0 _ ?side1 ?side2 A70.out).mono ?_); (case side1 => exact qq9); (case side2 => exact qq8); rintro e w74 ⟨rfl, hi, hb, hk⟩; refine ⟨_, rfl, ?_⟩; have n0_ := Aside0.mk (Kd.R_mono (Kd.R_keep (IsS61.apart (show IsS61 w0 _ g s0_0 x1001_49 from by repeat (first | (with_reducible first | exact HI0.out | apply IsS61.alloc | apply IsS61.drewN | apply IsS61.drew | apply IsS61.set_1) | exact HI0.out)) (qq2 HO_7.out) (by decide)) hk (fun _ h => h.2)) (fun _ h => h.1)); have n1_ := Aside0.mk (KeepBut.trans qq6 hk (.inl rfl)); have n2_ := Aside0.mk (hb); have n3_ := Aside0.mk (hi); clear HO_7; clear HK; clear HB; clear HI0; have HO_7 := n0_; have HK := n1_; have HB := n2_; have HI0 := n3_; clear n0_ n1_ n2_ n3_; (try clear hb); (try clear hb2); (try clear hk); (try clear hi); have p147 : 0 ≤ (0 : Int) := (by omega); have q147 : 0 < (x7_49.length : Int) := of_decide_eq_true qq3; obtain ⟨ad147, e147, hx147_0, hx147_1, hx147_2, hx147_3⟩ := at_T32 (Kd.R_reads' HO_7.out).2.2 0 p147 q147; cases e147; have qi147 : (0 < x7_49.length) = True := eq_true (by omega); (try rw [show ((0 : Int)).toNat = 0 from rfl] at hx147_0); (try rw [show 0 * 4 = 0 from rfl] at hx147_0); (try rw [Addr.add_zero'] at hx147_0); (try rw [show ((0 : Int)).toNat = 0 from rfl] at hx147_1); (try rw [show 0 * 4 = 0 from rfl] at hx147_1); (try rw [Addr.add_zero'] at hx147_1); (try rw [show ((0 : Int)).toNat = 0 from rfl] at hx147_2); (try rw [show 0 * 4 = 0 from rfl] at hx147_2); (try rw [Addr.add_zero'] at hx147_2); (try rw [show ((0 : Int)).toNat = 0 from rfl] at hx147_3); (try rw [show 0 * 4 = 0 from rfl] at hx147_3); (try rw [Addr.add_zero'] at hx147_3); replace p147 := eq_true p147; replace q147 := eq_true q147; have p73 : 0 ≤ (0 : Int) := (by omega); have q73 : (0 : Int) < ((x7_49.length : Int) : Int) := of_decide_eq_true qq3; have qi73 : (0 < x7_49.length) = True := eq_true (by omega); obtain ⟨go73, co73, eo73, gb73, gl73, cl73, HG73⟩ := Kd.R_form HO_7.out (by omega); (first | cases eo73 | (injection eo73 with ea_ en_ ec_; (first | subst ea_ | (injection ea_ with ea_; subst ea_)); subst ec_; clear en_)); have GB73 := Aside0.mk gb73; have GG73 := Aside0.mk HG73; clear gb73 gl73 HG73; (first | simp only [add_plain] at hx147_0 | skip); (first | simp only [add_plain] at hx147_1 | skip); (first | simp only [add_plain] at hx147_2 | skip); (first | simp only [add_plain] at hx147_3 | skip); obtain ⟨ce73, hcl73, hM73, hcc73, hfr73⟩ := Kd.R_elem HO_7.out z32 (0 : Int) p73 q73; obtain rfl := k32_openM hM73; have hx73_0 : w74.cell? ⟨go73, (0 : Int).toNat * 4, none⟩ = some (.int .i64 ((rd_T32 x7_49 0).f0)) := hcc73 0 _ rfl; have hx73_1 : w74.cell? ⟨go73, (0 : Int).toNat * 4 + 1, none⟩ = some (.int .i64 ((rd_T32 x7_49 0).f1)) := hcc73 1 _ rfl; have hx73_2 : w74.cell? ⟨go73, (0 : Int).toNat * 4 + 2, none⟩ = some (.int .i64 ((rd_T32 x7_49 0).f2)) := hcc73 2 _ rfl; have hx73_3 : w74.cell? ⟨go73, (0 : Int).toNat * 4 + 3, none⟩ = some (.int .i64 ((rd_T32 x7_49 0).f3)) := hcc73 3 _ rfl; have hf73_0 : w74.frozen? ⟨go73, (0 : Int).toNat * 4, none⟩ = false := hfr73 0; have hf73_1 : w74.frozen? ⟨go73, (0 : Int).toNat * 4 + 1, none⟩ = false := hfr73 1; have hf73_2 : w74.frozen? ⟨go73, (0 : Int).toNat * 4 + 2, none⟩ = false := hfr73 2; have hf73_3 : w74.frozen? ⟨go73, (0 : Int).toNat * 4 + 3, none⟩ = false := hfr73 3; clear hcl73 hcc73 hfr73; (try clear hM73); (try rw [show ((0 : Int)).toNat = 0 from rfl] at hx73_0); (try simp only [Nat.reduceMul, Nat.zero_mul, Nat.zero_add, Nat.reduceAdd] at hx73_0); (try rw [show ((0 : Int)).toNat = 0 from rfl] at hf73_0); (try simp only [Nat.reduceMul, Nat.zero_mul, Nat.zero_add, Nat.reduceAdd] at hf73_0); (try rw [show ((0 : Int)).toNat = 0 from rfl] at hx73_1); (try simp only [Nat.reduceMul, Nat.zero_mul, Nat.zero_add, Nat.reduceAdd] at hx73_1); (try rw [show ((0 : Int)).toNat = 0 from rfl] at hf73_1); (try simp only [Nat.reduceMul, Nat.zero_mul, Nat.zero_add, Nat.reduceAdd] at hf73_1); (try rw [show ((0 : Int)).toNat = 0 from rfl] at hx73_2); (try simp only [Nat.reduceMul, Nat.zero_mul, Nat.zero_add, Nat.reduceAdd] at hx73_2); (try rw [show ((0 : Int)).toNat = 0 from rfl] at hf73_2); (try simp only [Nat.reduceMul, Nat.zero_mul, Nat.zero_add, Nat.reduceAdd] at hf73_2); (try rw [show ((0 : Int)).toNat = 0 from rfl] at hx73_3); (try simp only [Nat.reduceMul, Nat.zero_mul, Nat.zero_add, Nat.reduceAdd] at hx73_3); (try rw [show ((0 : Int)).toNat = 0 from rfl] at hf73_3); (try simp only [Nat.reduceMul, Nat.zero_mul, Nat.zero_add, Nat.reduceAdd] at hf73_3); replace p73 := eq_true p73; replace q73 := eq_true q73; have HX75 := Aside0.mk (show Kd.R k32 32 w74 w.heap.size (fun _ => True) (.slice (some ⟨go73, 0, none⟩) x7_49.length co51) x7_49 from (qq2 HO_7.out)); obtain ⟨ce75, hcl75, hM75, hcc75, hfr75⟩ := Kd.R_elem HX75.out z32 (0 : Int) (by omega) (by have h_ : (0 : Int) < ((x7_49.length : Int) : Int) := of_decide_eq_true qq3; first | exact h_ | (have e_ := (Kd.R_reads' HO_7.out).1; omega) | simpa using h_); obtain rfl := k32_openM hM75; have HP75 := Kd.R_seg HX75.out (0 : Int) (by omega) (by have h_ : (0 : Int) < ((x7_49.length : Int) : Int) := of_decide_eq_true qq3; first | exact h_ | (have e_ := (Kd.R_reads' HO_7.out).1; omega) | simpa using h_) (seg := [.int .i64 ((rd_T32 x7_49 0).f0)]) (j := 1) hcl75 hcc75 (show 2 ≤ 4 from by decide) (x' := (⟨(rd_T32 x7_49 0).f0, (rd_T32 x7_49 0).f0, (rd_T32 x7_49 0).f2, (rd_T32 x7_49 0).f3⟩ : S32)) (k32_mkM _ _ _ (⟨(rd_T32 x7_49 0).f0, (rd_T32 x7_49 0).f0, (rd_T32 x7_49 0).f2, (rd_T32 x7_49 0).f3⟩ : S32) ) (fun _ hk => hk); have hx75_1 := hcc75 1 _ rfl; (try simp only [show (k32).sz = 4 from rfl, Nat.mul_one, Nat.add_zero] at hx75_1); (try rw [show ((0 : Int)).toNat = 0 from rfl] at hx75_1); (try simp only [Nat.reduceMul, Nat.zero_mul, Nat.zero_add, Nat.reduceAdd] at hx75_1); have hf75_1 := hfr75 1; (try simp only [show (k32).sz = 4 from rfl, Nat.mul_one, Nat.add_zero] at hf75_1); (try rw [show ((0 : Int)).toNat = 0 from rfl] at hf75_1); (try simp only [Nat.reduceMul, Nat.zero_mul, Nat.zero_add, Nat.reduceAdd] at hf75_1); clear hcl75 hcc75 hfr75; (try clear hM75)) | ((with_reducible refine gate_store (t := 3) (p := 135) rfl ?_); refine store_event (t := 3) (p := 135) (v := ?vo_w76) (w1 := (w74.setCell ⟨go73, 1, none⟩ (.int .i64 ((rd_T32 x7_49 0).f0)))) ?hg ?ho ?hn ?hr ?_; (case ho => rfl); (case hg => rfl); (case hn => rfl); (case hr => exact qq16); intro w76 hw; have hg : w74.grownBy w76 (some go73) := (by rw [hw]; exact HP75.2); have hp_ : Kd.R k32 32 w76 w.heap.size (fun _ => True) (.slice (some ⟨go73, 0, none⟩) x7_49.length co51) y148 := (by rw [hw, Ny148.out]; exact HP75.1); clear HP75; have n0_ := Aside0.mk (hp_); have n1_ := Aside0.mk (IsS61.grown qq9 hg (IsS61.own_ne HI0.out HO_7.out (by decide))); have n2_ := Aside0.mk ((by rw [hw]; exact below_set (HB.out) (Nat.le_trans HL.out GB73.out) : Below w0.heap.size w0 w76)); have n3_ := Aside0.mk (KeepBut.trans qq6 (KeepBut.of_grown hg g) (Kd.R_base2 HO_7.out)); clear HO_7; clear HI0; clear HB; clear HK; have HO_7 := n0_; have HI0 := n1_; have HB := n2_; have HK := n3_; clear n0_ n1_ n2_ n3_; clear hg hw hp_))
                              go_ret2
                              exact ⟨_, qq11, qq2 HO_7.out, qq9, qq8, qq6⟩
                            · rw [if_neg c72] at H
                              exact absurd H (by simp)
                          · rw [if_neg c71] at H
                            have c71b0 : (t145 == 0) = false := beq_eq_false_iff_ne.mpr c71
                            have c71b1 : (t145 != 0) = true := bne_iff_ne.mpr c71
                            by_cases c77 : t145 = 1
                            · rw [if_pos c77] at H
                              have c77b0 : (t145 == 1) = true := beq_iff_eq.mpr c77
                              have c77b1 : (t145 != 1) = false := bne_eq_false_iff_eq.mpr c77
                              clear c77
                              obtain ⟨y149, hy149⟩ : ∃ y_ : List Int, y_ = (([0, 10] : List Int)) := ⟨_, rfl⟩
                              replace H : ((spec_l6Rd_pick.f kj49 s0_0 t146 2).bind fun bt152 => (if 0 ≤ bt152.1 then (if bt152.1 < (y149.length : Int) then (if 0 < (x7_49.length : Int) then (some ((wrap64 (2 + t104)), (x7_49.set (0 : Int).toNat (⟨(rd_T32 x7_49 0).f0, (rd_T32 x7_49 0).f1, (rd_T32 x7_49 0).f2, rd y149 bt152.1⟩ : S32)), bt152.2)) else (none)) else (none)) else (none))) = some (r1, r2, r3) := by first | (rw [hy149]; with_reducible exact H) | (have H2_ := (Option.bind_some _ _).symm.trans H; rw [hy149]; with_reducible exact H2_) | (have H2_ := (Option.bind_some _ _).symm.trans H; with_reducible exact H2_) | with_reducible exact H | (rw [hy149]; exact H) | exact H
                              have Ny149 := Aside0.mk hy149
                              clear hy149
                              replace H := Option.bind_eq_some_iff.mp H
                              obtain ⟨⟨t152, t153⟩, A780, H⟩ := H
                              replace H : (if 0 ≤ t152 then (if t152 < (y149.length : Int) then (if 0 < (x7_49.length : Int) then (some ((wrap64 (2 + t104)), (x7_49.set (0 : Int).toNat (⟨(rd_T32 x7_49 0).f0, (rd_T32 x7_49 0).f1, (rd_T32 x7_49 0).f2, rd y149 t152⟩ : S32)), t153)) else (none)) else (none)) else (none)) = some (r1, r2, r3) := H
                              have A78 := Aside0.mk A780
                              clear A780
                              by_cases c79 : 0 ≤ t152
                              · rw [if_pos c79] at H
                                have c79b0 : decide (0 ≤ t152) = true := decide_eq_true c79
                                clear c79
                                by_cases c80 : t152 < (y149.length : Int)
                                · rw [if_pos c80] at H
                                  have c80b0 : decide (t152 < (y149.length : Int)) = true := decide_eq_true c80
                                  clear c80
                                  by_cases c81 : 0 < (x7_49.length : Int)
                                  · rw [if_pos c81] at H
                                    have c81b0 : decide (0 < (x7_49.length : Int)) = true := decide_eq_true c81
                                    have c81b1 : decide (0 < x7_49.length) = true := decide_eq_true (by omega)
                                    clear c81
                                    obtain ⟨y155, hy155⟩ : ∃ y_ : List (S32), y_ = (x7_49.set (0 : Int).toNat (⟨(rd_T32 x7_49 0).f0, (rd_T32 x7_49 0).f1, (rd_T32 x7_49 0).f2, rd y149 t152⟩ : S32)) := ⟨_, rfl⟩
                                    replace H : (some ((wrap64 (2 + t104)), y155, t153)) = some (r1, r2, r3) := by first | (rw [hy155]; with_reducible exact H) | (have H2_ := (Option.bind_some _ _).symm.trans H; rw [hy155]; with_reducible exact H2_) | (have H2_ := (Option.bind_some _ _).symm.trans H; with_reducible exact H2_) | with_reducible exact H | (rw [hy155]; exact H) | exact H
                                    have Ny155 := Aside0.mk hy155
                                    clear hy155
                                    simp only [Option.some.injEq, Prod.mk.injEq] at H
                                    obtain ⟨rfl, rfl, rfl⟩ := H
                                    go_wp2_with (first | ((with_reducible refine gate_callee (f := 36) rfl ?_); refine goesL_ (some 126) rfl rfl Try.func36 (by kernel_rfl) rfl #[.pointer (some ⟨g, 0, none⟩), .int .i64 50] rfl qq5 ?_; (with_reducible refine (spec_l6Rd_pick.calls kj49 g s0_0 x1001_49 50 t145 t146 w0 _ ?side1 ?side2 A70.out).mono ?_); (case side1 => exact qq9); (case side2 => exact qq8); rintro e w83 ⟨rfl, hi, hb, hk⟩; refine ⟨_, rfl, ?_⟩; have n0_ := Aside0.mk (Kd.R_mono (Kd.R_keep (IsS61.apart (show IsS61 w0 _ g s0_0 x1001_49 from by repeat (first | (with_reducible first | exact HI0.out | apply IsS61.alloc | apply IsS61.drewN | apply IsS61.drew | apply IsS61.set_1) | exact HI0.out)) (qq2 HO_7.out) (by decide)) hk (fun _ h => h.2)) (fun _ h => h.1)); have n1_ := Aside0.mk (KeepBut.trans qq6 hk (.inl rfl)); have n2_ := Aside0.mk (hb); have n3_ := Aside0.mk (hi); clear HO_7; clear HK; clear HB; clear HI0; have HO_7 := n0_; have HK := n1_; have HB := n2_; have HI0 := n3_; clear n0_ n1_ n2_ n3_; (try clear hb); (try clear hb2); (try clear hk); (try clear hi)) | ((with_reducible refine gate_dst (N := 139) rfl ?_); refine Kd.R_lit (Kd.int .i64) _ 3 ?hg (N := 139) ?hd (xs := ([0, 10] : List Int)) (inner := [.int .i64 0, .int .i64 10]) (ok := fun _ => True) (okp := fun _ => True) ?hr ?hp (fun _ hk => hk) trivial (Below.refl _ _) (Nat.le_refl _) (by simp) ?_; (case hd => rfl); (case hg => rfl); (case hr => exact qq16); (case hp => exact (Reps.one (show Kd.M (Kd.int .i64) _ _ _ 0 [.int .i64 0] from rfl) (Reps.one (show Kd.M (Kd.int .i64) _ _ _ 10 [.int .i64 10] from rfl) (Reps.none _ _)))); intro v150 w84 ho85 hb hg_ hnew_; clear hg_ hnew_; (first | rw [← Ny149.out] at ho85 | (simp only [Int.reduceToNat] at ho85; rw [← Ny149.out] at ho85)); have n0_ := Aside0.mk (Kd.R_below (qq2 HO_7.out) hb); have n1_ := Aside0.mk (Kd.R_lower ho85 (keep_size (w := w) (g := g) (row := none) qq6)); have n2_ := Aside0.mk (IsS61.below qq9 hb); have n3_ := Aside0.mk (KeepBut.trans qq6 (KeepBut.of_below hb g none) (.inl rfl)); have n4_ := Aside0.mk (below_step qq8 hb); clear HO_7; clear HI0; clear HK; clear HB; have HO_7 := n0_; have HO151 := n1_; have HI0 := n2_; have HK := n3_; have HB := n4_; clear n0_ n1_ n2_ n3_ n4_; clear hb ho85) | ((with_reducible refine gate_callee (f := 36) rfl ?_); refine goesL_ (some 141) rfl rfl Try.func36 (by kernel_rfl) rfl #[.pointer (some ⟨g, 0, none⟩), .int .i64 2] rfl qq5 ?_; (with_reducible refine (spec_l6Rd_pick.calls kj49 g s0_0 t146 2 t152 t153 w0 _ ?side1 ?side2 A78.out).mono ?_); (case side1 => exact qq9); (case side2 => exact qq8); rintro e w86 ⟨rfl, hi, hb, hk⟩; refine ⟨_, rfl, ?_⟩; have n0_ := Aside0.mk (Kd.R_mono (Kd.R_keep (IsS61.apart (show IsS61 w0 _ g s0_0 t146 from by repeat (first | (with_reducible first | exact HI0.out | apply IsS61.alloc | apply IsS61.drewN | apply IsS61.drew | apply IsS61.set_1) | exact HI0.out)) (qq2 HO_7.out) (by decide)) hk (fun _ h => h.2)) (fun _ h => h.1)); have n1_ := Aside0.mk (Kd.R_mono (Kd.R_keep (IsS61.apart (show IsS61 w0 _ g s0_0 t146 from by repeat (first | (with_reducible first | exact HI0.out | apply IsS61.alloc | apply IsS61.drewN | apply IsS61.drew | apply IsS61.set_1) | exact HI0.out)) (qq2 HO151.out) (by decide)) hk (fun _ h => h.2)) (fun _ h => h.1)); have n2_ := Aside0.mk (KeepBut.trans qq6 hk (.inl rfl)); have n3_ := Aside0.mk (hb); have n4_ := Aside0.mk (hi); clear HO_7; clear HO151; clear HK; clear HB; clear HI0; have HO_7 := n0_; have HO151 := n1_; have HK := n2_; have HB := n3_; have HI0 := n4_; clear n0_ n1_ n2_ n3_ n4_; (try clear hb); (try clear hb2); (try clear hk); (try clear hi); obtain ⟨Ao87, co87, eo87⟩ := Kd.R_slice HO151.out; subst eo87; have p154 : 0 ≤ (t152 : Int) := of_decide_eq_true qq3; have q154 : t152 < (y149.length : Int) := of_decide_eq_true qq3; obtain ⟨ad154, e154, hx154_0⟩ := Kd.at_int (Kd.R_reads' HO151.out).2.2 t152 p154 q154; cases e154; replace p154 := eq_true p154; replace q154 := eq_true q154; have p82 : 0 ≤ (0 : Int) := (by omega); have q82 : (0 : Int) < ((x7_49.length : Int) : Int) := of_decide_eq_true qq3; have qi82 : (0 < x7_49.length) = True := eq_true (by omega); obtain ⟨go82, co82, eo82, gb82, gl82, cl82, HG82⟩ := Kd.R_form HO_7.out (by omega); (first | cases eo82 | (injection eo82 with ea_ en_ ec_; (first | subst ea_ | (injection ea_ with ea_; subst ea_)); subst ec_; clear en_)); have GB82 := Aside0.mk gb82; have GG82 := Aside0.mk HG82; clear gb82 gl82 HG82; obtain ⟨ce82, hcl82, hM82, hcc82, hfr82⟩ := Kd.R_elem HO_7.out z32 (0 : Int) p82 q82; obtain rfl := k32_openM hM82; have hx82_0 : w86.cell? ⟨go82, (0 : Int).toNat * 4, none⟩ = some (.int .i64 ((rd_T32 x7_49 0).f0)) := hcc82 0 _ rfl; have hx82_1 : w86.cell? ⟨go82, (0 : Int).toNat * 4 + 1, none⟩ = some (.int .i64 ((rd_T32 x7_49 0).f1)) := hcc82 1 _ rfl; have hx82_2 : w86.cell? ⟨go82, (0 : Int).toNat * 4 + 2, none⟩ = some (.int .i64 ((rd_T32 x7_49 0).f2)) := hcc82 2 _ rfl; have hx82_3 : w86.cell? ⟨go82, (0 : Int).toNat * 4 + 3, none⟩ = some (.int .i64 ((rd_T32 x7_49 0).f3)) := hcc82 3 _ rfl; have hf82_0 : w86.frozen? ⟨go82, (0 : Int).toNat * 4, none⟩ = false := hfr82 0; have hf82_1 : w86.frozen? ⟨go82, (0 : Int).toNat * 4 + 1, none⟩ = false := hfr82 1; have hf82_2 : w86.frozen? ⟨go82, (0 : Int).toNat * 4 + 2, none⟩ = false := hfr82 2; have hf82_3 : w86.frozen? ⟨go82, (0 : Int).toNat * 4 + 3, none⟩ = false := hfr82 3; clear hcl82 hcc82 hfr82; (try clear hM82); (try rw [show ((0 : Int)).toNat = 0 from rfl] at hx82_0); (try simp only [Nat.reduceMul, Nat.zero_mul, Nat.zero_add, Nat.reduceAdd] at hx82_0); (try rw [show ((0 : Int)).toNat = 0 from rfl] at hf82_0); (try simp only [Nat.reduceMul, Nat.zero_mul, Nat.zero_add, Nat.reduceAdd] at hf82_0); (try rw [show ((0 : Int)).toNat = 0 from rfl] at hx82_1); (try simp only [Nat.reduceMul, Nat.zero_mul, Nat.zero_add, Nat.reduceAdd] at hx82_1); (try rw [show ((0 : Int)).toNat = 0 from rfl] at hf82_1); (try simp only [Nat.reduceMul, Nat.zero_mul, Nat.zero_add, Nat.reduceAdd] at hf82_1); (try rw [show ((0 : Int)).toNat = 0 from rfl] at hx82_2); (try simp only [Nat.reduceMul, Nat.zero_mul, Nat.zero_add, Nat.reduceAdd] at hx82_2); (try rw [show ((0 : Int)).toNat = 0 from rfl] at hf82_2); (try simp only [Nat.reduceMul, Nat.zero_mul, Nat.zero_add, Nat.reduceAdd] at hf82_2); (try rw [show ((0 : Int)).toNat = 0 from rfl] at hx82_3); (try simp only [Nat.reduceMul, Nat.zero_mul, Nat.zero_add, Nat.reduceAdd] at hx82_3); (try rw [show ((0 : Int)).toNat = 0 from rfl] at hf82_3); (try simp only [Nat.reduceMul, Nat.zero_mul, Nat.zero_add, Nat.reduceAdd] at hf82_3); replace p82 := eq_true p82; replace q82 := eq_true q82; have HX88 := Aside0.mk (show Kd.R k32 32 w86 w.heap.size (fun _ => True) (.slice (some ⟨go82, 0, none⟩) x7_49.length co51) x7_49 from (qq2 HO_7.out)); obtain ⟨ce88, hcl88, hM88, hcc88, hfr88⟩ := Kd.R_elem HX88.out z32 (0 : Int) (by omega) (by have h_ : (0 : Int) < ((x7_49.length : Int) : Int) := of_decide_eq_true qq3; first | exact h_ | (have e_ := (Kd.R_reads' HO_7.out).1; omega) | simpa using h_); obtain rfl := k32_openM hM88; have HP88 := Kd.R_seg HX88.out (0 : Int) (by omega) (by have h_ : (0 : Int) < ((x7_49.length : Int) : Int) := of_decide_eq_true qq3; first | exact h_ | (have e_ := (Kd.R_reads' HO_7.out).1; omega) | simpa using h_) (seg := [.int .i64 (rd y149 t152)]) (j := 3) hcl88 hcc88 (show 4 ≤ 4 from by decide) (x' := (⟨(rd_T32 x7_49 0).f0, (rd_T32 x7_49 0).f1, (rd_T32 x7_49 0).f2, rd y149 t152⟩ : S32)) (k32_mkM _ _ _ (⟨(rd_T32 x7_49 0).f0, (rd_T32 x7_49 0).f1, (rd_T32 x7_49 0).f2, rd y149 t152⟩ : S32) ) (fun _ hk => hk); have hx88_3 := hcc88 3 _ rfl; (try simp only [show (k32).sz = 4 from rfl, Nat.mul_one, Nat.add_zero] at hx88_3); (try rw [show ((0 : Int)).toNat = 0 from rfl] at hx88_3); (try simp only [Nat.reduceMul, Nat.zero_mul, Nat.zero_add, Nat.reduceAdd] at hx88_3); have hf88_3 := hfr88 3; (try simp only [show (k32).sz = 4 from rfl, Nat.mul_one, Nat.add_zero] at hf88_3); (try rw [show ((0 : Int)).toNat = 0 from rfl] at hf88_3); (try simp only [Nat.reduceMul, Nat.zero_mul, Nat.zero_add, Nat.reduceAdd] at hf88_3); clear hcl88 hcc88 hfr88; (try clear hM88)) | ((with_reducible refine gate_store (t := 3) (p := 145) rfl ?_); refine store_event (t := 3) (p := 145) (v := ?vo_w89) (w1 := (w86.setCell ⟨go82, 3, none⟩ (.int .i64 (rd y149 t152)))) ?hg ?ho ?hn ?hr ?_; (case ho => rfl); (case hg => rfl); (case hn => rfl); (case hr => exact qq16); intro w89 hw; have hg : w86.grownBy w89 (some go82) := (by rw [hw]; exact HP88.2); have hp_ : Kd.R k32 32 w89 w.heap.size (fun _ => True) (.slice (some ⟨go82, 0, none⟩) x7_49.length co51) y155 := (by rw [hw, Ny155.out]; exact HP88.1); clear HP88; have n0_ := Aside0.mk (hp_); have n1_ := Aside0.mk (IsS61.grown qq9 hg (IsS61.own_ne HI0.out HO_7.out (by decide))); have n2_ := Aside0.mk (Kd.R_over' (v := (.slice (some ⟨go82, 0, none⟩) x7_49.length co51)) (qq2 HO151.out) (Kd.R_typed HO_7.out) (by decide) hg); have n3_ := Aside0.mk ((by rw [hw]; exact below_set (HB.out) (Nat.le_trans HL.out GB82.out) : Below w0.heap.size w0 w89)); have n4_ := Aside0.mk (KeepBut.trans qq6 (KeepBut.of_grown hg g) (Kd.R_base2 HO_7.out)); clear HO_7; clear HI0; clear HO151; clear HB; clear HK; have HO_7 := n0_; have HI0 := n1_; have HO151 := n2_; have HB := n3_; have HK := n4_; clear n0_ n1_ n2_ n3_ n4_; clear hg hw hp_))
                                    go_ret2
                                    exact ⟨_, qq11, qq2 HO_7.out, qq9, qq8, qq6⟩
                                  · rw [if_neg c81] at H
                                    exact absurd H (by simp)
                                · rw [if_neg c80] at H
                                  exact absurd H (by simp)
                              · rw [if_neg c79] at H
                                exact absurd H (by simp)
                            · rw [if_neg c77] at H
                              have c77b0 : (t145 == 1) = false := beq_eq_false_iff_ne.mpr c77
                              have c77b1 : (t145 != 1) = true := bne_iff_ne.mpr c77
                              by_cases c90 : t145 = 2
                              · rw [if_pos c90] at H
                                have c90b0 : (t145 == 2) = true := beq_iff_eq.mpr c90
                                have c90b1 : (t145 != 2) = false := bne_eq_false_iff_eq.mpr c90
                                clear c90
                                by_cases c91 : 0 < (x7_49.length : Int)
                                · rw [if_pos c91] at H
                                  have c91b0 : decide (0 < (x7_49.length : Int)) = true := decide_eq_true c91
                                  have c91b1 : decide (0 < x7_49.length) = true := decide_eq_true (by omega)
                                  clear c91
                                  obtain ⟨y156, hy156⟩ : ∃ y_ : List (S32), y_ = (x7_49.set (0 : Int).toNat (⟨(rd_T32 x7_49 0).f0, (rd_T32 x7_49 0).f1, 100001, (rd_T32 x7_49 0).f3⟩ : S32)) := ⟨_, rfl⟩
                                  replace H : (some ((wrap64 (2 + t104)), y156, t146)) = some (r1, r2, r3) := by first | (rw [hy156]; with_reducible exact H) | (have H2_ := (Option.bind_some _ _).symm.trans H; rw [hy156]; with_reducible exact H2_) | (have H2_ := (Option.bind_some _ _).symm.trans H; with_reducible exact H2_) | with_reducible exact H | (rw [hy156]; exact H) | exact H
                                  have Ny156 := Aside0.mk hy156
                                  clear hy156
                                  simp only [Option.some.injEq, Prod.mk.injEq] at H
                                  obtain ⟨rfl, rfl, rfl⟩ := H
                                  go_wp2_with (first | ((with_reducible refine gate_callee (f := 36) rfl ?_); refine goesL_ (some 126) rfl rfl Try.func36 (by kernel_rfl) rfl #[.pointer (some ⟨g, 0, none⟩), .int .i64 50] rfl qq5 ?_; (with_reducible refine (spec_l6Rd_pick.calls kj49 g s0_0 x1001_49 50 t145 t146 w0 _ ?side1 ?side2 A70.out).mono ?_); (case side1 => exact qq9); (case side2 => exact qq8); rintro e w93 ⟨rfl, hi, hb, hk⟩; refine ⟨_, rfl, ?_⟩; have n0_ := Aside0.mk (Kd.R_mono (Kd.R_keep (IsS61.apart (show IsS61 w0 _ g s0_0 x1001_49 from by repeat (first | (with_reducible first | exact HI0.out | apply IsS61.alloc | apply IsS61.drewN | apply IsS61.drew | apply IsS61.set_1) | exact HI0.out)) (qq2 HO_7.out) (by decide)) hk (fun _ h => h.2)) (fun _ h => h.1)); have n1_ := Aside0.mk (KeepBut.trans qq6 hk (.inl rfl)); have n2_ := Aside0.mk (hb); have n3_ := Aside0.mk (hi); clear HO_7; clear HK; clear HB; clear HI0; have HO_7 := n0_; have HK := n1_; have HB := n2_; have HI0 := n3_; clear n0_ n1_ n2_ n3_; (try clear hb); (try clear hb2); (try clear hk); (try clear hi); have p92 : 0 ≤ (0 : Int) := (by omega); have q92 : (0 : Int) < ((x7_49.length : Int) : Int) := of_decide_eq_true qq3; have qi92 : (0 < x7_49.length) = True := eq_true (by omega); obtain ⟨go92, co92, eo92, gb92, gl92, cl92, HG92⟩ := Kd.R_form HO_7.out (by omega); (first | cases eo92 | (injection eo92 with ea_ en_ ec_; (first | subst ea_ | (injection ea_ with ea_; subst ea_)); subst ec_; clear en_)); have GB92 := Aside0.mk gb92; have GG92 := Aside0.mk HG92; clear gb92 gl92 HG92; obtain ⟨ce92, hcl92, hM92, hcc92, hfr92⟩ := Kd.R_elem HO_7.out z32 (0 : Int) p92 q92; obtain rfl := k32_openM hM92; have hx92_0 : w93.cell? ⟨go92, (0 : Int).toNat * 4, none⟩ = some (.int .i64 ((rd_T32 x7_49 0).f0)) := hcc92 0 _ rfl; have hx92_1 : w93.cell? ⟨go92, (0 : Int).toNat * 4 + 1, none⟩ = some (.int .i64 ((rd_T32 x7_49 0).f1)) := hcc92 1 _ rfl; have hx92_2 : w93.cell? ⟨go92, (0 : Int).toNat * 4 + 2, none⟩ = some (.int .i64 ((rd_T32 x7_49 0).f2)) := hcc92 2 _ rfl; have hx92_3 : w93.cell? ⟨go92, (0 : Int).toNat * 4 + 3, none⟩ = some (.int .i64 ((rd_T32 x7_49 0).f3)) := hcc92 3 _ rfl; have hf92_0 : w93.frozen? ⟨go92, (0 : Int).toNat * 4, none⟩ = false := hfr92 0; have hf92_1 : w93.frozen? ⟨go92, (0 : Int).toNat * 4 + 1, none⟩ = false := hfr92 1; have hf92_2 : w93.frozen? ⟨go92, (0 : Int).toNat * 4 + 2, none⟩ = false := hfr92 2; have hf92_3 : w93.frozen? ⟨go92, (0 : Int).toNat * 4 + 3, none⟩ = false := hfr92 3; clear hcl92 hcc92 hfr92; (try clear hM92); (try rw [show ((0 : Int)).toNat = 0 from rfl] at hx92_0); (try simp only [Nat.reduceMul, Nat.zero_mul, Nat.zero_add, Nat.reduceAdd] at hx92_0); (try rw [show ((0 : Int)).toNat = 0 from rfl] at hf92_0); (try simp only [Nat.reduceMul, Nat.zero_mul, Nat.zero_add, Nat.reduceAdd] at hf92_0); (try rw [show ((0 : Int)).toNat = 0 from rfl] at hx92_1); (try simp only [Nat.reduceMul, Nat.zero_mul, Nat.zero_add, Nat.reduceAdd] at hx92_1); (try rw [show ((0 : Int)).toNat = 0 from rfl] at hf92_1); (try simp only [Nat.reduceMul, Nat.zero_mul, Nat.zero_add, Nat.reduceAdd] at hf92_1); (try rw [show ((0 : Int)).toNat = 0 from rfl] at hx92_2); (try simp only [Nat.reduceMul, Nat.zero_mul, Nat.zero_add, Nat.reduceAdd] at hx92_2); (try rw [show ((0 : Int)).toNat = 0 from rfl] at hf92_2); (try simp only [Nat.reduceMul, Nat.zero_mul, Nat.zero_add, Nat.reduceAdd] at hf92_2); (try rw [show ((0 : Int)).toNat = 0 from rfl] at hx92_3); (try simp only [Nat.reduceMul, Nat.zero_mul, Nat.zero_add, Nat.reduceAdd] at hx92_3); (try rw [show ((0 : Int)).toNat = 0 from rfl] at hf92_3); (try simp only [Nat.reduceMul, Nat.zero_mul, Nat.zero_add, Nat.reduceAdd] at hf92_3); replace p92 := eq_true p92; replace q92 := eq_true q92; have HX94 := Aside0.mk (show Kd.R k32 32 w93 w.heap.size (fun _ => True) (.slice (some ⟨go92, 0, none⟩) x7_49.length co51) x7_49 from (qq2 HO_7.out)); obtain ⟨ce94, hcl94, hM94, hcc94, hfr94⟩ := Kd.R_elem HX94.out z32 (0 : Int) (by omega) (by have h_ : (0 : Int) < ((x7_49.length : Int) : Int) := of_decide_eq_true qq3; first | exact h_ | (have e_ := (Kd.R_reads' HO_7.out).1; omega) | simpa using h_); obtain rfl := k32_openM hM94; have HP94 := Kd.R_seg HX94.out (0 : Int) (by omega) (by have h_ : (0 : Int) < ((x7_49.length : Int) : Int) := of_decide_eq_true qq3; first | exact h_ | (have e_ := (Kd.R_reads' HO_7.out).1; omega) | simpa using h_) (seg := [.int .i64 100001]) (j := 2) hcl94 hcc94 (show 3 ≤ 4 from by decide) (x' := (⟨(rd_T32 x7_49 0).f0, (rd_T32 x7_49 0).f1, 100001, (rd_T32 x7_49 0).f3⟩ : S32)) (k32_mkM _ _ _ (⟨(rd_T32 x7_49 0).f0, (rd_T32 x7_49 0).f1, 100001, (rd_T32 x7_49 0).f3⟩ : S32) ) (fun _ hk => hk); have hx94_2 := hcc94 2 _ rfl; (try simp only [show (k32).sz = 4 from rfl, Nat.mul_one, Nat.add_zero] at hx94_2); (try rw [show ((0 : Int)).toNat = 0 from rfl] at hx94_2); (try simp only [Nat.reduceMul, Nat.zero_mul, Nat.zero_add, Nat.reduceAdd] at hx94_2); have hf94_2 := hfr94 2; (try simp only [show (k32).sz = 4 from rfl, Nat.mul_one, Nat.add_zero] at hf94_2); (try rw [show ((0 : Int)).toNat = 0 from rfl] at hf94_2); (try simp only [Nat.reduceMul, Nat.zero_mul, Nat.zero_add, Nat.reduceAdd] at hf94_2); clear hcl94 hcc94 hfr94; (try clear hM94)) | ((with_reducible refine gate_store (t := 3) (p := 150) rfl ?_); refine store_event (t := 3) (p := 150) (v := ?vo_w95) (w1 := (w93.setCell ⟨go92, 2, none⟩ (.int .i64 100001))) ?hg ?ho ?hn ?hr ?_; (case ho => rfl); (case hg => rfl); (case hn => rfl); (case hr => exact qq16); intro w95 hw; have hg : w93.grownBy w95 (some go92) := (by rw [hw]; exact HP94.2); have hp_ : Kd.R k32 32 w95 w.heap.size (fun _ => True) (.slice (some ⟨go92, 0, none⟩) x7_49.length co51) y156 := (by rw [hw, Ny156.out]; exact HP94.1); clear HP94; have n0_ := Aside0.mk (hp_); have n1_ := Aside0.mk (IsS61.grown qq9 hg (IsS61.own_ne HI0.out HO_7.out (by decide))); have n2_ := Aside0.mk ((by rw [hw]; exact below_set (HB.out) (Nat.le_trans HL.out GB92.out) : Below w0.heap.size w0 w95)); have n3_ := Aside0.mk (KeepBut.trans qq6 (KeepBut.of_grown hg g) (Kd.R_base2 HO_7.out)); clear HO_7; clear HI0; clear HB; clear HK; have HO_7 := n0_; have HI0 := n1_; have HB := n2_; have HK := n3_; clear n0_ n1_ n2_ n3_; clear hg hw hp_))
                                  go_ret2
                                  exact ⟨_, qq11, qq2 HO_7.out, qq9, qq8, qq6⟩
                                · rw [if_neg c91] at H
                                  exact absurd H (by simp)
                              · rw [if_neg c90] at H
                                have c90b0 : (t145 == 2) = false := beq_eq_false_iff_ne.mpr c90
                                have c90b1 : (t145 != 2) = true := bne_iff_ne.mpr c90
                                by_cases c96 : t145 = 3
                                · rw [if_pos c96] at H
                                  have c96b0 : (t145 == 3) = true := beq_iff_eq.mpr c96
                                  have c96b1 : (t145 != 3) = false := bne_eq_false_iff_eq.mpr c96
                                  clear c96
                                  by_cases c97 : 0 < (x7_49.length : Int)
                                  · rw [if_pos c97] at H
                                    have c97b0 : decide (0 < (x7_49.length : Int)) = true := decide_eq_true c97
                                    have c97b1 : decide (0 < x7_49.length) = true := decide_eq_true (by omega)
                                    clear c97
                                    obtain ⟨y157, hy157⟩ : ∃ y_ : List (S32), y_ = (x7_49.set (0 : Int).toNat (⟨(rd_T32 x7_49 0).f0, (wrap64 (2 + t104)), (rd_T32 x7_49 0).f2, (rd_T32 x7_49 0).f3⟩ : S32)) := ⟨_, rfl⟩
                                    replace H : (some ((wrap64 (2 + t104)), y157, t146)) = some (r1, r2, r3) := by first | (rw [hy157]; with_reducible exact H) | (have H2_ := (Option.bind_some _ _).symm.trans H; rw [hy157]; with_reducible exact H2_) | (have H2_ := (Option.bind_some _ _).symm.trans H; with_reducible exact H2_) | with_reducible exact H | (rw [hy157]; exact H) | exact H
                                    have Ny157 := Aside0.mk hy157
                                    clear hy157
                                    simp only [Option.some.injEq, Prod.mk.injEq] at H
                                    obtain ⟨rfl, rfl, rfl⟩ := H
                                    go_wp2_with (first | ((with_reducible refine gate_callee (f := 36) rfl ?_); refine goesL_ (some 126) rfl rfl Try.func36 (by kernel_rfl) rfl #[.pointer (some ⟨g, 0, none⟩), .int .i64 50] rfl qq5 ?_; (with_reducible refine (spec_l6Rd_pick.calls kj49 g s0_0 x1001_49 50 t145 t146 w0 _ ?side1 ?side2 A70.out).mono ?_); (case side1 => exact qq9); (case side2 => exact qq8); rintro e w99 ⟨rfl, hi, hb, hk⟩; refine ⟨_, rfl, ?_⟩; have n0_ := Aside0.mk (Kd.R_mono (Kd.R_keep (IsS61.apart (show IsS61 w0 _ g s0_0 x1001_49 from by repeat (first | (with_reducible first | exact HI0.out | apply IsS61.alloc | apply IsS61.drewN | apply IsS61.drew | apply IsS61.set_1) | exact HI0.out)) (qq2 HO_7.out) (by decide)) hk (fun _ h => h.2)) (fun _ h => h.1)); have n1_ := Aside0.mk (KeepBut.trans qq6 hk (.inl rfl)); have n2_ := Aside0.mk (hb); have n3_ := Aside0.mk (hi); clear HO_7; clear HK; clear HB; clear HI0; have HO_7 := n0_; have HK := n1_; have HB := n2_; have HI0 := n3_; clear n0_ n1_ n2_ n3_; (try clear hb); (try clear hb2); (try clear hk); (try clear hi); have p98 : 0 ≤ (0 : Int) := (by omega); have q98 : (0 : Int) < ((x7_49.length : Int) : Int) := of_decide_eq_true qq3; have qi98 : (0 < x7_49.length) = True := eq_true (by omega); obtain ⟨go98, co98, eo98, gb98, gl98, cl98, HG98⟩ := Kd.R_form HO_7.out (by omega); (first | cases eo98 | (injection eo98 with ea_ en_ ec_; (first | subst ea_ | (injection ea_ with ea_; subst ea_)); subst ec_; clear en_)); have GB98 := Aside0.mk gb98; have GG98 := Aside0.mk HG98; clear gb98 gl98 HG98; obtain ⟨ce98, hcl98, hM98, hcc98, hfr98⟩ := Kd.R_elem HO_7.out z32 (0 : Int) p98 q98; obtain rfl := k32_openM hM98; have hx98_0 : w99.cell? ⟨go98, (0 : Int).toNat * 4, none⟩ = some (.int .i64 ((rd_T32 x7_49 0).f0)) := hcc98 0 _ rfl; have hx98_1 : w99.cell? ⟨go98, (0 : Int).toNat * 4 + 1, none⟩ = some (.int .i64 ((rd_T32 x7_49 0).f1)) := hcc98 1 _ rfl; have hx98_2 : w99.cell? ⟨go98, (0 : Int).toNat * 4 + 2, none⟩ = some (.int .i64 ((rd_T32 x7_49 0).f2)) := hcc98 2 _ rfl; have hx98_3 : w99.cell? ⟨go98, (0 : Int).toNat * 4 + 3, none⟩ = some (.int .i64 ((rd_T32 x7_49 0).f3)) := hcc98 3 _ rfl; have hf98_0 : w99.frozen? ⟨go98, (0 : Int).toNat * 4, none⟩ = false := hfr98 0; have hf98_1 : w99.frozen? ⟨go98, (0 : Int).toNat * 4 + 1, none⟩ = false := hfr98 1; have hf98_2 : w99.frozen? ⟨go98, (0 : Int).toNat * 4 + 2, none⟩ = false := hfr98 2; have hf98_3 : w99.frozen? ⟨go98, (0 : Int).toNat * 4 + 3, none⟩ = false := hfr98 3; clear hcl98 hcc98 hfr98; (try clear hM98); (try rw [show ((0 : Int)).toNat = 0 from rfl] at hx98_0); (try simp only [Nat.reduceMul, Nat.zero_mul, Nat.zero_add, Nat.reduceAdd] at hx98_0); (try rw [show ((0 : Int)).toNat = 0 from rfl] at hf98_0); (try simp only [Nat.reduceMul, Nat.zero_mul, Nat.zero_add, Nat.reduceAdd] at hf98_0); (try rw [show ((0 : Int)).toNat = 0 from rfl] at hx98_1); (try simp only [Nat.reduceMul, Nat.zero_mul, Nat.zero_add, Nat.reduceAdd] at hx98_1); (try rw [show ((0 : Int)).toNat = 0 from rfl] at hf98_1); (try simp only [Nat.reduceMul, Nat.zero_mul, Nat.zero_add, Nat.reduceAdd] at hf98_1); (try rw [show ((0 : Int)).toNat = 0 from rfl] at hx98_2); (try simp only [Nat.reduceMul, Nat.zero_mul, Nat.zero_add, Nat.reduceAdd] at hx98_2); (try rw [show ((0 : Int)).toNat = 0 from rfl] at hf98_2); (try simp only [Nat.reduceMul, Nat.zero_mul, Nat.zero_add, Nat.reduceAdd] at hf98_2); (try rw [show ((0 : Int)).toNat = 0 from rfl] at hx98_3); (try simp only [Nat.reduceMul, Nat.zero_mul, Nat.zero_add, Nat.reduceAdd] at hx98_3); (try rw [show ((0 : Int)).toNat = 0 from rfl] at hf98_3); (try simp only [Nat.reduceMul, Nat.zero_mul, Nat.zero_add, Nat.reduceAdd] at hf98_3); replace p98 := eq_true p98; replace q98 := eq_true q98; have HX100 := Aside0.mk (show Kd.R k32 32 w99 w.heap.size (fun _ => True) (.slice (some ⟨go98, 0, none⟩) x7_49.length co51) x7_49 from (qq2 HO_7.out)); obtain ⟨ce100, hcl100, hM100, hcc100, hfr100⟩ := Kd.R_elem HX100.out z32 (0 : Int) (by omega) (by have h_ : (0 : Int) < ((x7_49.length : Int) : Int) := of_decide_eq_true qq3; first | exact h_ | (have e_ := (Kd.R_reads' HO_7.out).1; omega) | simpa using h_); obtain rfl := k32_openM hM100; have HP100 := Kd.R_seg HX100.out (0 : Int) (by omega) (by have h_ : (0 : Int) < ((x7_49.length : Int) : Int) := of_decide_eq_true qq3; first | exact h_ | (have e_ := (Kd.R_reads' HO_7.out).1; omega) | simpa using h_) (seg := [.int .i64 (wrap64 (2 + t104))]) (j := 1) hcl100 hcc100 (show 2 ≤ 4 from by decide) (x' := (⟨(rd_T32 x7_49 0).f0, (wrap64 (2 + t104)), (rd_T32 x7_49 0).f2, (rd_T32 x7_49 0).f3⟩ : S32)) (k32_mkM _ _ _ (⟨(rd_T32 x7_49 0).f0, (wrap64 (2 + t104)), (rd_T32 x7_49 0).f2, (rd_T32 x7_49 0).f3⟩ : S32) ) (fun _ hk => hk); have hx100_1 := hcc100 1 _ rfl; (try simp only [show (k32).sz = 4 from rfl, Nat.mul_one, Nat.add_zero] at hx100_1); (try rw [show ((0 : Int)).toNat = 0 from rfl] at hx100_1); (try simp only [Nat.reduceMul, Nat.zero_mul, Nat.zero_add, Nat.reduceAdd] at hx100_1); have hf100_1 := hfr100 1; (try simp only [show (k32).sz = 4 from rfl, Nat.mul_one, Nat.add_zero] at hf100_1); (try rw [show ((0 : Int)).toNat = 0 from rfl] at hf100_1); (try simp only [Nat.reduceMul, Nat.zero_mul, Nat.zero_add, Nat.reduceAdd] at hf100_1); clear hcl100 hcc100 hfr100; (try clear hM100)) | ((with_reducible refine gate_store (t := 3) (p := 156) rfl ?_); refine store_event (t := 3) (p := 156) (v := ?vo_w101) (w1 := (w99.setCell ⟨go98, 1, none⟩ (.int .i64 (wrap64 (2 + t104))))) ?hg ?ho ?hn ?hr ?_; (case ho => rfl); (case hg => rfl); (case hn => rfl); (case hr => exact qq16); intro w101 hw; have hg : w99.grownBy w101 (some go98) := (by rw [hw]; exact HP100.2); have hp_ : Kd.R k32 32 w101 w.heap.size (fun _ => True) (.slice (some ⟨go98, 0, none⟩) x7_49.length co51) y157 := (by rw [hw, Ny157.out]; exact HP100.1); clear HP100; have n0_ := Aside0.mk (hp_); have n1_ := Aside0.mk (IsS61.grown qq9 hg (IsS61.own_ne HI0.out HO_7.out (by decide))); have n2_ := Aside0.mk ((by rw [hw]; exact below_set (HB.out) (Nat.le_trans HL.out GB98.out) : Below w0.heap.size w0 w101)); have n3_ := Aside0.mk (KeepBut.trans qq6 (KeepBut.of_grown hg g) (Kd.R_base2 HO_7.out)); clear HO_7; clear HI0; clear HB; clear HK; have HO_7 := n0_; have HI0 := n1_; have HB := n2_; have HK := n3_; clear n0_ n1_ n2_ n3_; clear hg hw hp_))
                                    go_ret2
                                    exact ⟨_, qq11, qq2 HO_7.out, qq9, qq8, qq6⟩
                                  · rw [if_neg c97] at H
                                    exact absurd H (by simp)
                                · rw [if_neg c96] at H
                                  have c96b0 : (t145 == 3) = false := beq_eq_false_iff_ne.mpr c96
                                  have c96b1 : (t145 != 3) = true := bne_iff_ne.mpr c96
                                  simp only [Option.some.injEq, Prod.mk.injEq] at H
                                  obtain ⟨rfl, rfl, rfl⟩ := H
                                  go_wp2_with (first | ((with_reducible refine gate_callee (f := 36) rfl ?_); refine goesL_ (some 126) rfl rfl Try.func36 (by kernel_rfl) rfl #[.pointer (some ⟨g, 0, none⟩), .int .i64 50] rfl qq5 ?_; (with_reducible refine (spec_l6Rd_pick.calls kj49 g s0_0 x1001_49 50 t145 t146 w0 _ ?side1 ?side2 A70.out).mono ?_); (case side1 => exact qq9); (case side2 => exact qq8); rintro e w102 ⟨rfl, hi, hb, hk⟩; refine ⟨_, rfl, ?_⟩; have n0_ := Aside0.mk (Kd.R_mono (Kd.R_keep (IsS61.apart (show IsS61 w0 _ g s0_0 x1001_49 from by repeat (first | (with_reducible first | exact HI0.out | apply IsS61.alloc | apply IsS61.drewN | apply IsS61.drew | apply IsS61.set_1) | exact HI0.out)) (qq2 HO_7.out) (by decide)) hk (fun _ h => h.2)) (fun _ h => h.1)); have n1_ := Aside0.mk (KeepBut.trans qq6 hk (.inl rfl)); have n2_ := Aside0.mk (hb); have n3_ := Aside0.mk (hi); clear HO_7; clear HK; clear HB; clear HI0; have HO_7 := n0_; have HK := n1_; have HB := n2_; have HI0 := n3_; clear n0_ n1_ n2_ n3_; (try clear hb); (try clear hb2); (try clear hk); (try clear hi)))
                                  go_ret2
                                  exact ⟨_, qq11, qq2 HO_7.out, qq9, qq8, qq6⟩
                        · rw [if_neg c69] at H
                          have c69b0 : decide (0 < (x7_49.length : Int)) = false := decide_eq_false c69
                          have c69b1 : decide (0 < x7_49.length) = false := decide_eq_false (by omega)
                          clear c69
                          simp only [Option.some.injEq, Prod.mk.injEq] at H
                          obtain ⟨rfl, rfl, rfl⟩ := H
                          go_wp2
                          go_ret2
                          exact ⟨_, qq11, qq2 HO_7.out, qq9, qq8, qq6⟩

end Go.Proofs.Ytmcfhmflncghiaa.Q
namespace Go.Proofs.Ytmcfhmflncghiaa.Q
open Go.RowKit Go.Proofs.YtmcfhmflncghiaaW.PrintWords Go.Proofs.YtmcfhmflncghiaaW.PrintLast Go.Proofs.YtmcfhmflncghiaaW.PrintMore
attribute [local go_sem] max2_int min2_int max_two min_two max_three min_three max_four min_four
set_option linter.unusedVariables false
set_option linter.unusedSimpArgs false

/-! ### spec_l91True: function 24 -/
mutual
def spec_l91True.l0 : Nat → Int → List (S32) → List Int → Int → List Int → Int → Option (Int × (List (S32)) × Int)
  | 0, _, _, _, _, _, _ => none
  | k + 1, x6, x7, x8, x9, x1000, x1001 => if x9 < x6 then ((spec_l6Rd_pick.f k x1000 x1001 41).bind fun bt174 => (if x8.length < 17592186044416 then (spec_l91True.l0 k x6 x7 (x8 ++ [wrap64 (bt174.1 - 20)]) (wrap64 (x9 + 1)) x1000 bt174.2) else (none))) else (spec_l91True.l1 k x6 x7 x8 0 x1000 x1001)
def spec_l91True.l1 : Nat → Int → List (S32) → List Int → Int → List Int → Int → Option (Int × (List (S32)) × Int)
  | 0, _, _, _, _, _, _ => none
  | k + 1, x6, x7, x8, x10, x1000, x1001 => if x10 < (x7.length : Int) then (if 0 ≤ x10 then (if 0 ≤ ((rd_T32 x7 x10).f1) then (if ((rd_T32 x7 x10).f1) < (x8.length : Int) then (if 0 ≤ ((rd_T32 x7 x10).f0) then (if ((rd_T32 x7 x10).f0) < (x8.length : Int) then (spec_l91True.l1 k x6 (x7.set (x10 : Int).toNat (⟨(rd_T32 x7 x10).f0, (rd_T32 x7 x10).f1, wrap64 ((rd x8 ((rd_T32 x7 x10).f1)) - (rd x8 ((rd_T32 x7 x10).f0))), (rd_T32 x7 x10).f3⟩ : S32)) x8 (wrap64 (x10 + 1)) x1000 x1001) else (none)) else (none)) else (none)) else (none)) else (none)) else (if (x7.length : Int) > 0 then ((spec_l6Rd_pick.f k x1000 x1001 2).bind fun bt184 => (spec_l91True.j2 k x6 x7 (bt184.1 == 0) x1000 bt184.2)) else (spec_l91True.j2 k x6 x7 false x1000 x1001))
def spec_l91True.j2 : Nat → Int → List (S32) → Bool → List Int → Int → Option (Int × (List (S32)) × Int)
  | 0, _, _, _, _, _ => none
  | k + 1, x6, x7, x70, x1000, x1001 => if x70 = true then ((spec_l6Rd_pick.f k x1000 x1001 (x7.length : Int)).bind fun bt186 => (if 0 ≤ bt186.1 then (if bt186.1 < (x7.length : Int) then ((spec_l6Rd_pick.f k x1000 bt186.2 9).bind fun bt189 => (some (x6, (x7.set (bt186.1 : Int).toNat (⟨(rd_T32 x7 bt186.1).f0, (rd_T32 x7 bt186.1).f1, wrap64 ((wrap64 (((rd_T32 x7 bt186.1).f2) + 1)) + bt189.1), (rd_T32 x7 bt186.1).f3⟩ : S32)), bt189.2))) else (none)) else (none))) else (some (x6, x7, x1001))
end
def spec_l91True.f (k : Nat) (s0_0 : List Int) (s0_1 : Int) (a1 : Int) : Option (Int × (List (S32)) × Int) := (spec_l91Net.f k s0_0 s0_1 a1).bind fun bt165 => ((spec_NetValid.f k bt165.1 bt165.2.1).bind fun t170 => (if t170 = true then (spec_l91True.l0 k bt165.1 bt165.2.1 (([] : List Int)) 0 s0_0 bt165.2.2) else (some (bt165.1, bt165.2.1, bt165.2.2))))
def spec_l91True.T12 : Bool × List (List Nat × List Nat) := (true, [([], []), ([], []), ([], []), ([], []), ([], []), ([3, 4], [3, 4]), ([5], [5]), ([6], [6]), ([2, 7], [2, 7]), ([8], [8]), ([], []), ([], []), ([], []), ([11, 12], [11, 12]), ([13], [13]), ([14], [14]), ([10, 15], [10, 15]), ([16], [16]), ([9, 17], [9, 17]), ([0, 1, 0, 1, 2, 3, 4, 5, 6, 7, 8, 9, 10, 11, 12, 13, 14, 15, 16, 17, 18], [0, 1]), ([19, 0, 1, 2, 3, 4, 5, 6, 7, 8, 9, 10, 11, 12, 13, 14, 15, 16, 17, 18], [19]), ([20, 18, 0, 1, 2, 3, 4, 5, 6, 7, 8, 9, 10, 11, 12, 13, 14, 15, 16, 17, 18], [18, 20])])
def spec_l91True.B12 : List Nat := [0, 0, 0, 0, 0, 24, 56, 120, 252, 508, 0, 0, 0, 6144, 14336, 30720, 64512, 130048, 262140, 524287, 1048575, 2097151]
theorem spec_l91True.tab12 : rtab .any (opsOf Try.f24 12) = spec_l91True.T12 := by kernel_rfl
theorem spec_l91True.bits12 : waitsOk spec_l91True.T12.2 spec_l91True.B12 = true := by kernel_rfl
def spec_l91True.T15 : Bool × List (List Nat × List Nat) := (true, [([], []), ([], []), ([], []), ([], []), ([2, 3], [2, 3]), ([4], [4]), ([5], [5]), ([6], [6]), ([], []), ([8], [8]), ([7, 9], [7, 9]), ([0, 1, 0, 1, 2, 3, 4, 5, 6, 7, 8, 9, 10], [0, 1]), ([11, 0, 1, 2, 3, 4, 5, 6, 7, 8, 9, 10], [11]), ([12, 10, 9, 0, 1, 2, 3, 4, 5, 6, 7, 8, 9, 10], [10, 12])])
def spec_l91True.B15 : List Nat := [0, 0, 0, 0, 12, 28, 60, 124, 0, 256, 1020, 2047, 4095, 8191]
theorem spec_l91True.tab15 : rtab .any (opsOf Try.f24 15) = spec_l91True.T15 := by kernel_rfl
theorem spec_l91True.bits15 : waitsOk spec_l91True.T15.2 spec_l91True.B15 = true := by kernel_rfl
set_option maxHeartbeats 8000000 in
set_option maxRecDepth 100000 in
theorem spec_l91True.calls (k : Nat) (g : Nat) (s0_0 : List Int) (s0_1 : Int) (a1 : Int) (r1 : Int) (r2 : List (S32)) (r3 : Int) (w0 w : World) (hI : IsS61 w0 w g s0_0 s0_1) (hB : Below w0.heap.size w0 w) (h : spec_l91True.f k s0_0 s0_1 a1 = some (r1, r2, r3)) :
    Calls Try.prog 24 #[.pointer (some ⟨g, 0, none⟩), .int .i64 a1] w fun e w' => ∃ v1_ : Value, e = .returned (.tuple #[.int .i64 r1, v1_]) ∧ Kd.R k32 32 w' w.heap.size (fun _ => True) v1_ r2 ∧ IsS61 w0 w' g s0_0 r3 ∧ Below w0.heap.size w0 w' ∧ KeepBut w w' g none := by
  have HI0 := Aside0.mk hI
  have HK := Aside0.mk (KeepBut.refl w g none)
  have HL := Aside0.mk hB.size
  clear hI
  have HW0 := Aside0.mk hB.size
  have HB := Aside0.mk hB
  clear hB
  have H : ((spec_l91Net.f k s0_0 s0_1 a1).bind fun bt165 => ((spec_NetValid.f k bt165.1 bt165.2.1).bind fun t170 => (if t170 = true then (spec_l91True.l0 k bt165.1 bt165.2.1 (([] : List Int)) 0 s0_0 bt165.2.2) else (some (bt165.1, bt165.2.1, bt165.2.2))))) = some (r1, r2, r3) := h
  clear h
  replace H := Option.bind_eq_some_iff.mp H
  obtain ⟨⟨t165, t166, t169⟩, A30, H⟩ := H
  replace H : ((spec_NetValid.f k t165 t166).bind fun t170 => (if t170 = true then (spec_l91True.l0 k t165 t166 (([] : List Int)) 0 s0_0 t169) else (some (t165, t166, t169)))) = some (r1, r2, r3) := H
  have A3 := Aside0.mk A30
  clear A30
  replace H := Option.bind_eq_some_iff.mp H
  obtain ⟨t170, A40, H⟩ := H
  replace H : (if t170 = true then (spec_l91True.l0 k t165 t166 (([] : List Int)) 0 s0_0 t169) else (some (t165, t166, t169))) = some (r1, r2, r3) := H
  have A4 := Aside0.mk A40
  clear A40
  by_cases c5 : t170 = true
  · subst c5
    have H1 : (spec_l91True.l0 k t165 t166 (([] : List Int)) 0 s0_0 t169) = some (r1, r2, r3) := by rw [if_pos rfl] at H; exact H
    clear H
    have H := H1
    clear H1
    obtain ⟨y171, hy171⟩ : ∃ y_ : List Int, y_ = (([] : List Int)) := ⟨_, rfl⟩
    replace H : (spec_l91True.l0 k t165 t166 y171 0 s0_0 t169) = some (r1, r2, r3) := by first | (rw [hy171]; with_reducible exact H) | (have H2_ := (Option.bind_some _ _).symm.trans H; rw [hy171]; with_reducible exact H2_) | (have H2_ := (Option.bind_some _ _).symm.trans H; with_reducible exact H2_) | with_reducible exact H | (rw [hy171]; exact H) | exact H
    have Ny171 := Aside0.mk hy171
    clear hy171
    have H' := Aside0.mk H
    clear H
    go_enter Try.func24, Try.ntmps24
    go_wp2_with (first | ((with_reducible refine gate_callee (f := 44) rfl ?_); refine goesL_ (some 15) rfl rfl Try.func44 (by kernel_rfl) rfl #[.pointer (some ⟨g, 0, none⟩), .int .i64 a1] rfl qq5 ?_; (with_reducible refine (spec_l91Net.calls k g s0_0 s0_1 a1 t165 t166 t169 w0 _ ?side1 ?side2 A3.out).mono ?_); (case side1 => exact qq9); (case side2 => exact qq8); rintro e w6 ⟨v167, rfl, ho0, hi, hb, hk⟩; refine ⟨_, rfl, ?_⟩; have n0_ := Aside0.mk (Kd.R_lower ho0 (keep_size (w := w) (g := g) (row := none) qq6)); have n1_ := Aside0.mk (KeepBut.trans qq6 hk (.inl rfl)); have n2_ := Aside0.mk (hb); have n3_ := Aside0.mk (hi); clear HK; clear HB; clear HI0; have HO168 := n0_; have HK := n1_; have HB := n2_; have HI0 := n3_; clear n0_ n1_ n2_ n3_; (try clear hb); (try clear hb2); (try clear hk); (try clear hi); (try clear ho0); obtain ⟨Ao7, co7, eo7⟩ := Kd.R_slice HO168.out; subst eo7) | ((with_reducible refine gate_callee (f := 45) rfl ?_); refine goesL_ (some 20) rfl rfl Try.func45 (by kernel_rfl) rfl #[.int .i64 t165, .slice Ao7 t166.length co7] rfl qq5 ?_; (with_reducible refine (spec_NetValid.calls k t165 _ _ t166 true _ ?side1 ?side2 A4.out).mono ?_); (case side1 => exact qq12 HO168.out); (case side2 => exact qq50 HO168.out); rintro e w8 ⟨rfl, hb⟩; refine ⟨_, rfl, ?_⟩; have n0_ := Aside0.mk (Kd.R_below (qq2 HO168.out) hb); have n1_ := Aside0.mk (IsS61.below qq9 hb); have n2_ := Aside0.mk (KeepBut.trans qq6 (KeepBut.of_below hb g none) (.inl rfl)); have n3_ := Aside0.mk (below_step qq8 hb); clear HO168; clear HI0; clear HK; clear HB; have HO168 := n0_; have HI0 := n1_; have HK := n2_; have HB := n3_; clear n0_ n1_ n2_ n3_; (try clear hb); (try clear hb2); (try clear hk); (try clear hi)) | ((with_reducible refine gate_dst (N := 24) rfl ?_); refine Kd.R_lit (Kd.int .i64) _ 3 ?hg (N := 24) ?hd (xs := ([] : List Int)) (inner := []) (ok := fun _ => True) (okp := fun _ => True) ?hr ?hp (fun _ hk => hk) trivial (Below.refl _ _) (Nat.le_refl _) (by simp) ?_; (case hd => rfl); (case hg => rfl); (case hr => exact qq16); (case hp => exact (Reps.none _ _)); intro v172 w9 ho10 hb hg_ hnew_; clear hg_ hnew_; (first | rw [← Ny171.out] at ho10 | (simp only [Int.reduceToNat] at ho10; rw [← Ny171.out] at ho10)); have n0_ := Aside0.mk (Kd.R_below (qq2 HO168.out) hb); have n1_ := Aside0.mk (Kd.R_lower ho10 (keep_size (w := w) (g := g) (row := none) qq6)); have n2_ := Aside0.mk (IsS61.below qq9 hb); have n3_ := Aside0.mk (KeepBut.trans qq6 (KeepBut.of_below hb g none) (.inl rfl)); have n4_ := Aside0.mk (below_step qq8 hb); clear HO168; clear HI0; clear HK; clear HB; have HO168 := n0_; have HO173 := n1_; have HI0 := n2_; have HK := n3_; have HB := n4_; clear n0_ n1_ n2_ n3_ n4_; clear hb ho10))
    go_loopg [8, 9] k (fun kq v8 v9 w' => ∃ (x8_1 : List Int) (x9_1 : Int) (x1001_1 : Int), v9 = .int .i64 x9_1 ∧ Aside0 (spec_l91True.l0 kq t165 t166 x8_1 x9_1 s0_0 x1001_1 = some (r1, r2, r3)) ∧ Aside0 (kq ≤ k) ∧ Aside0 (Kd.R k32 32 w' w.heap.size (fun _ => True) (.slice Ao7 t166.length co7) t166) ∧ Aside0 (Kd.R (Kd.int .i64) 3 w' w.heap.size (fun _ => True) v8 x8_1) ∧ Aside0 (IsS61 w0 w' g s0_0 x1001_1) ∧ Aside0 (KeepBut w w' g none) ∧ Aside0 (Below w0.heap.size w0 w'))
    case atStart => exact ⟨(y171), (0), (t169), qq13, H', ⟨Nat.le_refl _⟩, ⟨qq2 HO168.out⟩, ⟨qq2 HO173.out⟩, ⟨qq9⟩, ⟨qq6⟩, ⟨qq8⟩⟩
    case round =>
      clear H'
      try clear c2
      try clear p2
      try clear c4
      try clear c5
      obtain ⟨x8_1, x9_1, x1001_1, rfl, HA, HK1, HO_7, HO_8, HI0, HK, HB⟩ := hrel
      cases gk with
      | zero => exact absurd HA.out (by simp [spec_l91True.l0])
      | succ k1 =>
        have H := HA.out
        clear HA
        simp only [spec_l91True.l0] at H
        by_cases c11 : x9_1 < t165
        · rw [if_pos c11] at H
          have c11b0 : decide (x9_1 < t165) = true := decide_eq_true c11
          clear c11
          replace H := Option.bind_eq_some_iff.mp H
          obtain ⟨⟨t174, t175⟩, A120, H⟩ := H
          replace H : (if x8_1.length < 17592186044416 then (spec_l91True.l0 k1 t165 t166 (x8_1 ++ [wrap64 (t174 - 20)]) (wrap64 (x9_1 + 1)) s0_0 t175) else (none)) = some (r1, r2, r3) := H
          have A12 := Aside0.mk A120
          clear A120
          by_cases c13 : x8_1.length < 17592186044416
          · rw [if_pos c13] at H
            have LMc13 := Aside0.mk c13
            clear c13
            obtain ⟨y176, hy176⟩ : ∃ y_ : List Int, y_ = (x8_1 ++ [wrap64 (t174 - 20)]) := ⟨_, rfl⟩
            replace H : (spec_l91True.l0 k1 t165 t166 y176 (wrap64 (x9_1 + 1)) s0_0 t175) = some (r1, r2, r3) := by first | (rw [hy176]; with_reducible exact H) | (have H2_ := (Option.bind_some _ _).symm.trans H; rw [hy176]; with_reducible exact H2_) | (have H2_ := (Option.bind_some _ _).symm.trans H; with_reducible exact H2_) | with_reducible exact H | (rw [hy176]; exact H) | exact H
            have Ny176 := Aside0.mk hy176
            clear hy176
            have H' := Aside0.mk H
            clear H
            go_wp2_with (first | ((with_reducible refine gate_callee (f := 36) rfl ?_); refine goesL_ (some 32) rfl rfl Try.func36 (by kernel_rfl) rfl #[.pointer (some ⟨g, 0, none⟩), .int .i64 41] rfl qq5 ?_; (with_reducible refine (spec_l6Rd_pick.calls k1 g s0_0 x1001_1 41 t174 t175 w0 _ ?side1 ?side2 A12.out).mono ?_); (case side1 => exact qq9); (case side2 => exact qq8); rintro e w14 ⟨rfl, hi, hb, hk⟩; refine ⟨_, rfl, ?_⟩; have n0_ := Aside0.mk (Kd.R_mono (Kd.R_keep (IsS61.apart (show IsS61 w0 _ g s0_0 x1001_1 from by repeat (first | (with_reducible first | exact HI0.out | apply IsS61.alloc | apply IsS61.drewN | apply IsS61.drew | apply IsS61.set_1) | exact HI0.out)) (qq2 HO_7.out) (by decide)) hk (fun _ h => h.2)) (fun _ h => h.1)); have n1_ := Aside0.mk (Kd.R_mono (Kd.R_keep (IsS61.apart (show IsS61 w0 _ g s0_0 x1001_1 from by repeat (first | (with_reducible first | exact HI0.out | apply IsS61.alloc | apply IsS61.drewN | apply IsS61.drew | apply IsS61.set_1) | exact HI0.out)) (qq2 HO_8.out) (by decide)) hk (fun _ h => h.2)) (fun _ h => h.1)); have n2_ := Aside0.mk (KeepBut.trans qq6 hk (.inl rfl)); have n3_ := Aside0.mk (hb); have n4_ := Aside0.mk (hi); clear HO_7; clear HO_8; clear HK; clear HB; clear HI0; have HO_7 := n0_; have HO_8 := n1_; have HK := n2_; have HB := n3_; have HI0 := n4_; clear n0_ n1_ n2_ n3_ n4_; (try clear hb); (try clear hb2); (try clear hk); (try clear hi)) | ((with_reducible refine gate_builtin (b := .append) (xs := #[.tmp 30, .tmp 34]) rfl ?_); at_builtin; refine Kd.R_append (Kd.int .i64) w.heap.size rfl (.tmp 30) (.tmp 34) 27 3 (.int .i64 0) 8 rfl Try.underlying27 info3 rfl (by decide) (by omega) u8 x8_1 (wrap64 (t174 - 20)) [.int .i64 (wrap64 (t174 - 20))] (fun _ => True) (fun _ => False) rfl rfl ?aP (fun _ hk => hk.elim) ?aF ?aO (Below.refl _ _) ?aS ?aL ?_; (case aP => exact rfl); (case aF => exact qq75); (case aO => exact (qq2 HO_8.out)); (case aS => exact qq82); (case aL => have := LMc13.out; omega); intro v177 w15 ho hb hg hat; rw [← Ny176.out] at ho; have n0_ := Aside0.mk (Kd.R_over' (qq2 HO_7.out) (Kd.R_typed (qq2 HO_8.out)) (by decide) hg); have n1_ := Aside0.mk (IsS61.grown qq9 hg (IsS61.own_ne HI0.out HO_8.out (by decide))); have n2_ := Aside0.mk (below_weaken qq8 HL.out hb); have n3_ := Aside0.mk (KeepBut.trans qq6 (KeepBut.of_grown hg g) (Kd.R_base2 HO_8.out)); have n4_ := Aside0.mk (ho); clear HO_7; clear HI0; clear HB; clear HK; clear HO_8; have HO_7 := n0_; have HI0 := n1_; have HB := n2_; have HK := n3_; have HO178 := n4_; clear n0_ n1_ n2_ n3_ n4_; clear ho hb hg hat))
            go_roundg k1
            case measure => have := HK1.out; omega
            case rel => exact ⟨(y176), (wrap64 (x9_1 + 1)), (t175), qq13, H', ⟨by have := HK1.out; omega⟩, ⟨qq2 HO_7.out⟩, ⟨qq2 HO178.out⟩, ⟨qq9⟩, ⟨qq6⟩, ⟨qq8⟩⟩
          · rw [if_neg c13] at H
            exact absurd H (by simp)
        · rw [if_neg c11] at H
          have c11b0 : decide (x9_1 < t165) = false := decide_eq_false c11
          clear c11
          have H' := Aside0.mk H
          clear H
          go_wp2
          go_loopg [10] k1 (fun kq v10 w' => ∃ (x7_2 : List (S32)) (x10_2 : Int), v10 = .int .i64 x10_2 ∧ Aside0 (spec_l91True.l1 kq t165 x7_2 x8_1 x10_2 s0_0 x1001_1 = some (r1, r2, r3)) ∧ Aside0 (kq ≤ k1) ∧ Aside0 (Kd.R k32 32 w' w.heap.size (fun _ => True) (.slice Ao7 t166.length co7) x7_2) ∧ Aside0 (Kd.R (Kd.int .i64) 3 w' w.heap.size (fun _ => True) u8 x8_1) ∧ Aside0 (IsS61 w0 w' g s0_0 x1001_1) ∧ Aside0 (KeepBut w w' g none) ∧ Aside0 (Below w0.heap.size w0 w'))
          case atStart => exact ⟨(t166), (0), qq13, H', ⟨Nat.le_refl _⟩, ⟨qq2 HO_7.out⟩, ⟨qq2 HO_8.out⟩, ⟨qq9⟩, ⟨qq6⟩, ⟨qq8⟩⟩
          case round =>
            clear H'
            try clear c1
            try clear c2
            try clear p2
            try clear c3
            try clear c4
            try clear c5
            try clear p6
            try clear c11
            try clear c11b0
            try clear c13
            try clear p2
            obtain ⟨x7_2, x10_2, rfl, HA, HK2, HO_7, HO_8, HI0, HK, HB⟩ := hrel
            have hl7_2 := (Kd.R_reads' HO_7.out).1
            rw [hl7_2] at HO_7
            (try simp only [hl7_2])
            (try simp only [hl7_2] at HO_8)
            cases gk with
            | zero => exact absurd HA.out (by simp [spec_l91True.l1])
            | succ k2 =>
              have H := HA.out
              clear HA
              simp only [spec_l91True.l1] at H
              by_cases c16 : x10_2 < (x7_2.length : Int)
              · rw [if_pos c16] at H
                have c16b0 : decide (x10_2 < (x7_2.length : Int)) = true := decide_eq_true c16
                clear c16
                by_cases c17 : 0 ≤ x10_2
                · rw [if_pos c17] at H
                  have c17b0 : decide (0 ≤ x10_2) = true := decide_eq_true c17
                  clear c17
                  by_cases c18 : 0 ≤ ((rd_T32 x7_2 x10_2).f1)
                  · rw [if_pos c18] at H
                    have c18b0 : decide (0 ≤ ((rd_T32 x7_2 x10_2).f1)) = true := decide_eq_true c18
                    clear c18
                    by_cases c19 : ((rd_T32 x7_2 x10_2).f1) < (x8_1.length : Int)
                    · rw [if_pos c19] at H
                      have c19b0 : decide (((rd_T32 x7_2 x10_2).f1) < (x8_1.length : Int)) = true := decide_eq_true c19
                      clear c19
                      by_cases c20 : 0 ≤ ((rd_T32 x7_2 x10_2).f0)
                      · rw [if_pos c20] at H
                        have c20b0 : decide (0 ≤ ((rd_T32 x7_2 x10_2).f0)) = true := decide_eq_true c20
                        clear c20
                        by_cases c21 : ((rd_T32 x7_2 x10_2).f0) < (x8_1.length : Int)
                        · rw [if_pos c21] at H
                          have c21b0 : decide (((rd_T32 x7_2 x10_2).f0) < (x8_1.length : Int)) = true := decide_eq_true c21
                          clear c21
                          obtain ⟨y183, hy183⟩ : ∃ y_ : List (S32), y_ = (x7_2.set (x10_2 : Int).toNat (⟨(rd_T32 x7_2 x10_2).f0, (rd_T32 x7_2 x10_2).f1, wrap64 ((rd x8_1 ((rd_T32 x7_2 x10_2).f1)) - (rd x8_1 ((rd_T32 x7_2 x10_2).f0))), (rd_T32 x7_2 x10_2).f3⟩ : S32)) := ⟨_, rfl⟩
                          replace H : (spec_l91True.l1 k2 t165 y183 x8_1 (wrap64 (x10_2 + 1)) s0_0 x1001_1) = some (r1, r2, r3) := by first | (rw [hy183]; with_reducible exact H) | (have H2_ := (Option.bind_some _ _).symm.trans H; rw [hy183]; with_reducible exact H2_) | (have H2_ := (Option.bind_some _ _).symm.trans H; with_reducible exact H2_) | with_reducible exact H | (rw [hy183]; exact H) | exact H
                          have Ny183 := Aside0.mk hy183
                          clear hy183
                          have H' := Aside0.mk H
                          clear H
                          try go_wp2
                          have n0_ := Aside0.mk (Kd.R_drew HO_7.out)
                          have n1_ := Aside0.mk (Kd.R_drew HO_8.out)
                          have n2_ := Aside0.mk (IsS61.drew HI0.out)
                          have n3_ := Aside0.mk (keep_drew HK.out)
                          have n4_ := Aside0.mk (below_drew1 HB.out)
                          clear HO_7
                          clear HO_8
                          clear HI0
                          clear HK
                          clear HB
                          have HO_7 := n0_
                          have HO_8 := n1_
                          have HI0 := n2_
                          have HK := n3_
                          have HB := n4_
                          clear n0_ n1_ n2_ n3_ n4_
                          have p179 : 0 ≤ (x10_2 : Int) := of_decide_eq_true qq3
                          have q179 : x10_2 < (x7_2.length : Int) := of_decide_eq_true qq3
                          obtain ⟨ad179, e179, hx179_0, hx179_1, hx179_2, hx179_3⟩ := at_T32 (Kd.R_reads' HO_7.out).2.2 x10_2 p179 q179
                          cases e179
                          replace p179 := eq_true p179
                          replace q179 := eq_true q179
                          obtain ⟨Ao24, co24, eo24⟩ := Kd.R_slice HO_8.out
                          (first | subst eo24 | (injection eo24 with f1_ f2_ f3_; have f4_ := f1_.symm; have f5_ := f3_.symm; clear f1_ f2_ f3_; subst f4_; subst f5_))
                          have p180 : 0 ≤ (((rd_T32 x7_2 x10_2).f1) : Int) := of_decide_eq_true qq3
                          have q180 : ((rd_T32 x7_2 x10_2).f1) < (x8_1.length : Int) := of_decide_eq_true qq3
                          obtain ⟨ad180, e180, hx180_0⟩ := Kd.at_int (Kd.R_reads' HO_8.out).2.2 ((rd_T32 x7_2 x10_2).f1) p180 q180
                          cases e180
                          replace p180 := eq_true p180
                          replace q180 := eq_true q180
                          have p181 : 0 ≤ (x10_2 : Int) := of_decide_eq_true qq3
                          have q181 : x10_2 < (x7_2.length : Int) := of_decide_eq_true qq3
                          obtain ⟨ad181, e181, hx181_0, hx181_1, hx181_2, hx181_3⟩ := at_T32 (Kd.R_reads' HO_7.out).2.2 x10_2 p181 q181
                          obtain rfl : ad179 = ad181 := (by injection e181)
                          replace p181 := eq_true p181
                          replace q181 := eq_true q181
                          have p182 : 0 ≤ (((rd_T32 x7_2 x10_2).f0) : Int) := of_decide_eq_true qq3
                          have q182 : ((rd_T32 x7_2 x10_2).f0) < (x8_1.length : Int) := of_decide_eq_true qq3
                          obtain ⟨ad182, e182, hx182_0⟩ := Kd.at_int (Kd.R_reads' HO_8.out).2.2 ((rd_T32 x7_2 x10_2).f0) p182 q182
                          obtain rfl : ad180 = ad182 := (by injection e182)
                          replace p182 := eq_true p182
                          replace q182 := eq_true q182
                          have p22 : 0 ≤ (x10_2 : Int) := of_decide_eq_true qq3
                          have q22 : (x10_2 : Int) < ((x7_2.length : Int) : Int) := of_decide_eq_true qq3
                          obtain ⟨go22, co22, eo22, gb22, gl22, cl22, HG22⟩ := Kd.R_form HO_7.out (by omega)
                          (first | cases eo22 | (injection eo22 with ea_ en_ ec_; (first | subst ea_ | (injection ea_ with ea_; subst ea_)); subst ec_; clear en_))
                          have GB22 := Aside0.mk gb22
                          have GG22 := Aside0.mk HG22
                          clear gb22 gl22 HG22
                          (first | simp only [add_plain] at hx179_0 | skip)
                          (first | simp only [add_plain] at hx179_1 | skip)
                          (first | simp only [add_plain] at hx179_2 | skip)
                          (first | simp only [add_plain] at hx179_3 | skip)
                          (first | simp only [add_plain] at hx181_0 | skip)
                          (first | simp only [add_plain] at hx181_1 | skip)
                          (first | simp only [add_plain] at hx181_2 | skip)
                          (first | simp only [add_plain] at hx181_3 | skip)
                          obtain ⟨ce22, hcl22, hM22, hcc22, hfr22⟩ := Kd.R_elem HO_7.out z32 (x10_2 : Int) p22 q22
                          obtain rfl := k32_openM hM22
                          have hx22_0 : World.cell? _ ⟨go22, (x10_2 : Int).toNat * 4, none⟩ = some (.int .i64 ((rd_T32 x7_2 x10_2).f0)) := hcc22 0 _ rfl
                          have hx22_1 : World.cell? _ ⟨go22, (x10_2 : Int).toNat * 4 + 1, none⟩ = some (.int .i64 ((rd_T32 x7_2 x10_2).f1)) := hcc22 1 _ rfl
                          have hx22_2 : World.cell? _ ⟨go22, (x10_2 : Int).toNat * 4 + 2, none⟩ = some (.int .i64 ((rd_T32 x7_2 x10_2).f2)) := hcc22 2 _ rfl
                          have hx22_3 : World.cell? _ ⟨go22, (x10_2 : Int).toNat * 4 + 3, none⟩ = some (.int .i64 ((rd_T32 x7_2 x10_2).f3)) := hcc22 3 _ rfl
                          have hf22_0 : World.frozen? _ ⟨go22, (x10_2 : Int).toNat * 4, none⟩ = false := hfr22 0
                          have hf22_1 : World.frozen? _ ⟨go22, (x10_2 : Int).toNat * 4 + 1, none⟩ = false := hfr22 1
                          have hf22_2 : World.frozen? _ ⟨go22, (x10_2 : Int).toNat * 4 + 2, none⟩ = false := hfr22 2
                          have hf22_3 : World.frozen? _ ⟨go22, (x10_2 : Int).toNat * 4 + 3, none⟩ = false := hfr22 3
                          clear hcl22 hcc22 hfr22
                          (try clear hM22)
                          replace p22 := eq_true p22
                          replace q22 := eq_true q22
                          have HN0_go22 := Aside0.mk (show g ≠ go22 from by have h_ := IsS61.own_ne HI0.out HO_7.out (by decide); intro e_; exact h_ (by rw [e_]; rfl))
                          obtain ⟨ce25, hcl25, hM25, hcc25, hfr25⟩ := Kd.R_elem HO_7.out z32 (x10_2 : Int) (of_decide_eq_true qq3) (by have h_ : (x10_2 : Int) < ((x7_2.length : Int) : Int) := of_decide_eq_true qq3; first | exact h_ | (have e_ := (Kd.R_reads' HO_7.out).1; omega) | simpa using h_)
                          obtain rfl := k32_openM hM25
                          have HP25 := (Kd.R_seg HO_7.out (x10_2 : Int) (of_decide_eq_true qq3) (by have h_ : (x10_2 : Int) < ((x7_2.length : Int) : Int) := of_decide_eq_true qq3; first | exact h_ | (have e_ := (Kd.R_reads' HO_7.out).1; omega) | simpa using h_) (seg := [.int .i64 (wrap64 ((rd x8_1 ((rd_T32 x7_2 x10_2).f1)) - (rd x8_1 ((rd_T32 x7_2 x10_2).f0))))]) (j := 2) hcl25 hcc25 (show 3 ≤ 4 from by decide) (x' := (⟨(rd_T32 x7_2 x10_2).f0, (rd_T32 x7_2 x10_2).f1, wrap64 ((rd x8_1 ((rd_T32 x7_2 x10_2).f1)) - (rd x8_1 ((rd_T32 x7_2 x10_2).f0))), (rd_T32 x7_2 x10_2).f3⟩ : S32)) (k32_mkM _ _ _ (⟨(rd_T32 x7_2 x10_2).f0, (rd_T32 x7_2 x10_2).f1, wrap64 ((rd x8_1 ((rd_T32 x7_2 x10_2).f1)) - (rd x8_1 ((rd_T32 x7_2 x10_2).f0))), (rd_T32 x7_2 x10_2).f3⟩ : S32) ) (fun _ hk => hk)).1
                          rw [← Ny183.out] at HP25
                          have HQ25 := Aside0.mk HP25
                          clear hcl25 hcc25 hfr25 HP25
                          (try clear hM25)
                          refine start_ (n := 22) (S := fun w' => w'.cell? ⟨go22, ((x10_2).toNat * 4), none⟩ = some (.int .i64 ((rd_T32 x7_2 x10_2).f0)) ∧ w'.cell? ⟨go22, ((x10_2).toNat * 4) + 1, none⟩ = some (.int .i64 ((rd_T32 x7_2 x10_2).f1)) ∧ w'.cell? ⟨go22, ((x10_2).toNat * 4) + 2, none⟩ = some (.int .i64 ((rd_T32 x7_2 x10_2).f2)) ∧ w'.cell? ⟨go22, ((x10_2).toNat * 4) + 3, none⟩ = some (.int .i64 ((rd_T32 x7_2 x10_2).f3)) ∧ w'.cell? (ad180.add (((rd_T32 x7_2 x10_2).f1)).toNat) = some (.int .i64 (rd x8_1 ((rd_T32 x7_2 x10_2).f1))) ∧ w'.cell? ⟨go22, ((x10_2).toNat * 4), none⟩ = some (.int .i64 ((rd_T32 x7_2 x10_2).f0)) ∧ w'.cell? ⟨go22, ((x10_2).toNat * 4) + 1, none⟩ = some (.int .i64 ((rd_T32 x7_2 x10_2).f1)) ∧ w'.cell? ⟨go22, ((x10_2).toNat * 4) + 2, none⟩ = some (.int .i64 ((rd_T32 x7_2 x10_2).f2)) ∧ w'.cell? ⟨go22, ((x10_2).toNat * 4) + 3, none⟩ = some (.int .i64 ((rd_T32 x7_2 x10_2).f3)) ∧ w'.cell? (ad180.add (((rd_T32 x7_2 x10_2).f0)).toNat) = some (.int .i64 (rd x8_1 ((rd_T32 x7_2 x10_2).f0)))) (ds := [21]) #[false, false, false, false, false, false, false, false, false, false, false, false, false, false, false, false, false, false, false, false, false, false] (by kernel_rfl) rfl rfl ⟨hx179_0, hx179_1, hx179_2, hx179_3, hx180_0, hx181_0, hx181_1, hx181_2, hx181_3, hx182_0⟩ (fun hHeld => ?_); refine with_tabW spec_l91True.tab12 spec_l91True.bits12 (fun HT_ HW_ => ?_)
                          generalize wr.drew = w23 at HO_7 HO_8 HI0 HK HB GG22 HQ25 hf22_0 hf22_1 hf22_2 hf22_3 hx179_0 hx179_1 hx179_2 hx179_3 hx180_0 hx181_0 hx181_1 hx181_2 hx181_3 hx182_0 hx22_0 hx22_1 hx22_2 hx22_3 hHeld ⊢
                          refine pure_ (i := 0) (N := some 42) #[true, false, false, false, false, false, false, false, false, false, false, false, false, false, false, false, false, false, false, false, false, false] rfl rfl (any_of HT_.out (by kernel_rfl)) (fun _ _ _ h => h) (Or.inl ⟨by rfl, pA_⟩) pB_ ?_
                          refine pure_ (i := 1) (N := some 43) #[true, true, false, false, false, false, false, false, false, false, false, false, false, false, false, false, false, false, false, false, false, false] rfl rfl (any_of HT_.out (by kernel_rfl)) (fun _ _ _ h => h) (Or.inl ⟨by rfl, pA_⟩) pB_ ?_
                          refine pure_ (i := 2) (N := some 44) #[true, true, true, false, false, false, false, false, false, false, false, false, false, false, false, false, false, false, false, false, false, false] rfl rfl (any_of HT_.out (by kernel_rfl)) (fun _ _ _ h => h) (Or.inl ⟨by rfl, pA_⟩) pB_ ?_
                          refine pure_ (i := 3) (N := some 45) #[true, true, true, true, false, false, false, false, false, false, false, false, false, false, false, false, false, false, false, false, false, false] rfl rfl (any_of HT_.out (by kernel_rfl)) (fun _ _ _ h => h) (Or.inl ⟨by rfl, pA_⟩) pB_ ?_
                          refine pure_ (i := 4) (N := some 46) #[true, true, true, true, true, false, false, false, false, false, false, false, false, false, false, false, false, false, false, false, false, false] rfl rfl (any_of HT_.out (by kernel_rfl)) (fun _ _ _ h => h) (Or.inl ⟨by rfl, pA_⟩) pB_ ?_
                          refine pure_ (i := 5) (N := some 47) #[true, true, true, true, true, true, false, false, false, false, false, false, false, false, false, false, false, false, false, false, false, false] rfl rfl (any_of HT_.out (by kernel_rfl)) (fun _ _ _ h => h) (Or.inl ⟨by rfl, pA_⟩) pB_ ?_
                          refine pure_ (i := 6) (N := some 48) #[true, true, true, true, true, true, true, false, false, false, false, false, false, false, false, false, false, false, false, false, false, false] rfl rfl (any_of HT_.out (by kernel_rfl)) (fun _ _ _ h => h) (Or.inl ⟨by rfl, pA_⟩) pB_ ?_
                          refine pure_ (i := 10) (N := some 52) #[true, true, true, true, true, true, true, false, false, false, true, false, false, false, false, false, false, false, false, false, false, false] rfl rfl (any_of HT_.out (by kernel_rfl)) (fun _ _ _ h => h) (Or.inl ⟨by rfl, pA_⟩) pB_ ?_
                          refine pure_ (i := 11) (N := some 53) #[true, true, true, true, true, true, true, false, false, false, true, true, false, false, false, false, false, false, false, false, false, false] rfl rfl (any_of HT_.out (by kernel_rfl)) (fun _ _ _ h => h) (Or.inl ⟨by rfl, pA_⟩) pB_ ?_
                          refine pure_ (i := 12) (N := some 54) #[true, true, true, true, true, true, true, false, false, false, true, true, true, false, false, false, false, false, false, false, false, false] rfl rfl (any_of HT_.out (by kernel_rfl)) (fun _ _ _ h => h) (Or.inl ⟨by rfl, pA_⟩) pB_ ?_
                          refine pure_ (i := 13) (N := some 55) #[true, true, true, true, true, true, true, false, false, false, true, true, true, true, false, false, false, false, false, false, false, false] rfl rfl (any_of HT_.out (by kernel_rfl)) (fun _ _ _ h => h) (Or.inl ⟨by rfl, pA_⟩) pB_ ?_
                          refine pure_ (i := 14) (N := some 56) #[true, true, true, true, true, true, true, false, false, false, true, true, true, true, true, false, false, false, false, false, false, false] rfl rfl (any_of HT_.out (by kernel_rfl)) (fun _ _ _ h => h) (Or.inl ⟨by rfl, pA_⟩) pB_ ?_
                          refine take_ (i := 7) (N := some 49) (v := ?_) (a' := ?_) #[true, true, true, true, true, true, true, true, false, false, true, true, true, true, true, false, false, false, false, false, false, false] rfl rfl (take_ofW HT_.out HW_.out (by kernel_rfl)) (fun _ _ _ h => h) (Or.inl ⟨by rfl, ?_⟩) hHeld ?_ ?_
                          rotate_left
                          · rintro w' ⟨s0, s1, s2, s3, s4, s5, s6, s7, s8, s9⟩
                            go_simp
                            with_reducible rfl
                          rotate_left
                          · simp only [Act.put, List.setIfInBounds_toArray, List.set_cons_zero, List.set_cons_succ, i64_w, i32_w]
                            rfl
                          refine pure_ (i := 8) (N := some 50) #[true, true, true, true, true, true, true, true, true, false, true, true, true, true, true, false, false, false, false, false, false, false] rfl rfl (any_of HT_.out (by kernel_rfl)) (fun _ _ _ h => h) (Or.inl ⟨by rfl, pA_⟩) pB_ ?_
                          refine take_ (i := 9) (N := some 51) (v := ?_) (a' := ?_) #[true, true, true, true, true, true, true, true, true, true, true, true, true, true, true, false, false, false, false, false, false, false] rfl rfl (take_ofW HT_.out HW_.out (by kernel_rfl)) (fun _ _ _ h => h) (Or.inl ⟨by rfl, ?_⟩) hHeld ?_ ?_
                          rotate_left
                          · rintro w' ⟨s0, s1, s2, s3, s4, s5, s6, s7, s8, s9⟩
                            go_simp
                            with_reducible rfl
                          rotate_left
                          · simp only [Act.put, List.setIfInBounds_toArray, List.set_cons_zero, List.set_cons_succ, i64_w, i32_w]
                            rfl
                          refine take_ (i := 15) (N := some 57) (v := ?_) (a' := ?_) #[true, true, true, true, true, true, true, true, true, true, true, true, true, true, true, true, false, false, false, false, false, false] rfl rfl (take_ofW HT_.out HW_.out (by kernel_rfl)) (fun _ _ _ h => h) (Or.inl ⟨by rfl, ?_⟩) hHeld ?_ ?_
                          rotate_left
                          · rintro w' ⟨s0, s1, s2, s3, s4, s5, s6, s7, s8, s9⟩
                            go_simp
                            with_reducible rfl
                          rotate_left
                          · simp only [Act.put, List.setIfInBounds_toArray, List.set_cons_zero, List.set_cons_succ, i64_w, i32_w]
                            rfl
                          refine pure_ (i := 16) (N := some 58) #[true, true, true, true, true, true, true, true, true, true, true, true, true, true, true, true, true, false, false, false, false, false] rfl rfl (any_of HT_.out (by kernel_rfl)) (fun _ _ _ h => h) (Or.inl ⟨by rfl, pA_⟩) pB_ ?_
                          refine take_ (i := 17) (N := some 59) (v := ?_) (a' := ?_) #[true, true, true, true, true, true, true, true, true, true, true, true, true, true, true, true, true, true, false, false, false, false] rfl rfl (take_ofW HT_.out HW_.out (by kernel_rfl)) (fun _ _ _ h => h) (Or.inl ⟨by rfl, ?_⟩) hHeld ?_ ?_
                          rotate_left
                          · rintro w' ⟨s0, s1, s2, s3, s4, s5, s6, s7, s8, s9⟩
                            go_simp
                            with_reducible rfl
                          rotate_left
                          · simp only [Act.put, List.setIfInBounds_toArray, List.set_cons_zero, List.set_cons_succ, i64_w, i32_w]
                            rfl
                          refine pure_ (i := 18) (N := some 60) #[true, true, true, true, true, true, true, true, true, true, true, true, true, true, true, true, true, true, true, false, false, false] rfl rfl (any_of HT_.out (by kernel_rfl)) (fun _ _ _ h => h) (Or.inl ⟨by rfl, pA_⟩) pB_ ?_
                          refine pure_ (i := 19) (N := some 61) #[true, true, true, true, true, true, true, true, true, true, true, true, true, true, true, true, true, true, true, true, false, false] rfl rfl (any_of HT_.out (by kernel_rfl)) (fun _ _ _ h => h) (Or.inl ⟨by rfl, pA_⟩) pB_ ?_
                          refine pure_ (i := 20) (N := some 62) #[true, true, true, true, true, true, true, true, true, true, true, true, true, true, true, true, true, true, true, true, true, false] rfl rfl (any_of HT_.out (by kernel_rfl)) (fun _ _ _ h => h) (Or.inl ⟨by rfl, pA_⟩) pB_ ?_
                          refine last_ (i := 21) (N := none) #[true, true, true, true, true, true, true, true, true, true, true, true, true, true, true, true, true, true, true, true, true, true] rfl rfl (one_of HT_.out (by kernel_rfl)) (by decide) (fun K hK => ?_)
                          refine skip_ (w1 := ?_) (by rfl) rfl ?_ ?_
                          rotate_left
                          · go_simp
                            rfl
                          refine hK.out _ _ ?_
                          clear hK K
                          refine done_ (done_of HT_.out (by kernel_rfl)) ?_
                          try go_wp2
                          (try simp only [← hl7_2])
                          go_roundg k2
                          case measure => have := HK1.out; have := HK2.out; omega
                          case rel => exact ⟨(y183), (wrap64 (x10_2 + 1)), qq13, H', ⟨qq76 HK1.out HK2.out⟩, ⟨qq65 HQ25.out⟩, ⟨by (try simp only [hl7_2]); (with_reducible repeat (first | apply Kd.R_alloc | apply Kd.R_drewN | apply Kd.R_drew)); exact Kd.R_mono (Kd.R_far (p := ⟨go22, (x10_2 : Int).toNat * 4 + 2, none⟩) (Kd.R_types HO_8.out GG22.out (by decide)) (fun _ hk => hk.2) (.int .i64 (wrap64 ((rd x8_1 ((rd_T32 x7_2 x10_2).f1)) - (rd x8_1 ((rd_T32 x7_2 x10_2).f0)))))) (fun _ hk => trivial)⟩, ⟨qq25 HI0.out HN0_go22.out⟩, ⟨qq27 HK.out GB22.out⟩, ⟨qq77 HB.out HL.out GB22.out HI0.out⟩⟩
                        · rw [if_neg c21] at H
                          exact absurd H (by simp)
                      · rw [if_neg c20] at H
                        exact absurd H (by simp)
                    · rw [if_neg c19] at H
                      exact absurd H (by simp)
                  · rw [if_neg c18] at H
                    exact absurd H (by simp)
                · rw [if_neg c17] at H
                  exact absurd H (by simp)
              · rw [if_neg c16] at H
                have c16b0 : decide (x10_2 < (x7_2.length : Int)) = false := decide_eq_false c16
                clear c16
                have HC26 := Aside0.mk H
                clear H
                go_upto_region 13 with (fail)
                go_cut [70] (fun v70 wc => ∃ (kq : Nat) (x70_25 : Bool) (x1001_25 : Int), v70 = .bool x70_25 ∧ Aside0 (spec_l91True.j2 kq t165 x7_2 x70_25 s0_0 x1001_25 = some (r1, r2, r3)) ∧ Aside0 (kq ≤ k2) ∧ Aside0 (Kd.R k32 32 wc w.heap.size (fun _ => True) (.slice Ao7 x7_2.length co7) x7_2) ∧ Aside0 (IsS61 w0 wc g s0_0 x1001_25) ∧ Aside0 (KeepBut w wc g none) ∧ Aside0 (Below w0.heap.size w0 wc))
                case first =>
                  have H := HC26.out
                  clear HC26
                  by_cases c27 : (x7_2.length : Int) > 0
                  · rw [if_pos c27] at H
                    have c27b0 : decide (0 < (x7_2.length : Int)) = true := decide_eq_true c27
                    have c27b1 : decide (0 < x7_2.length) = true := decide_eq_true (by omega)
                    clear c27
                    (first | rw [c27b0] | (simp only [i64_w, i32_w]; rw [c27b0]) | skip)
                    replace H := Option.bind_eq_some_iff.mp H
                    obtain ⟨⟨t184, t185⟩, A280, H⟩ := H
                    replace H : (spec_l91True.j2 k2 t165 x7_2 (t184 == 0) s0_0 t185) = some (r1, r2, r3) := H
                    have A28 := Aside0.mk A280
                    clear A280
                    have H' := Aside0.mk H
                    clear H
                    go_wp2_with (first | (go_at_call 36; (with_reducible refine (spec_l6Rd_pick.calls k2 g s0_0 x1001_1 2 t184 t185 w0 _ ?side1 ?side2 A28.out).mono ?_); (case side1 => exact qq9); (case side2 => exact qq8); rintro e w29 ⟨rfl, hi, hb, hk⟩; have n0_ := Aside0.mk (Kd.R_mono (Kd.R_keep (IsS61.apart (show IsS61 w0 _ g s0_0 x1001_1 from by repeat (first | (with_reducible first | exact HI0.out | apply IsS61.alloc | apply IsS61.drewN | apply IsS61.drew | apply IsS61.set_1) | exact HI0.out)) (qq2 HO_7.out) (by decide)) hk (fun _ h => h.2)) (fun _ h => h.1)); have n1_ := Aside0.mk (Kd.R_mono (Kd.R_keep (IsS61.apart (show IsS61 w0 _ g s0_0 x1001_1 from by repeat (first | (with_reducible first | exact HI0.out | apply IsS61.alloc | apply IsS61.drewN | apply IsS61.drew | apply IsS61.set_1) | exact HI0.out)) (qq2 HO_8.out) (by decide)) hk (fun _ h => h.2)) (fun _ h => h.1)); have n2_ := Aside0.mk (KeepBut.trans qq6 hk (.inl rfl)); have n3_ := Aside0.mk (hb); have n4_ := Aside0.mk (hi); clear HO_7; clear HO_8; clear HK; clear HB; clear HI0; have HO_7 := n0_; have HO_8 := n1_; have HK := n2_; have HB := n3_; have HI0 := n4_; clear n0_ n1_ n2_ n3_ n4_; (try clear hb); (try clear hb2); (try clear hk); (try clear hi)))
                    go_meet
                    case rel => exact ⟨_, ((t184 == 0)), (t185), qq13, H', ⟨qq52 HK1.out HK2.out⟩, ⟨qq65 HO_7.out⟩, ⟨qq9⟩, ⟨qq6⟩, ⟨qq8⟩⟩
                  · rw [if_neg c27] at H
                    have c27b0 : decide (0 < (x7_2.length : Int)) = false := decide_eq_false c27
                    have c27b1 : decide (0 < x7_2.length) = false := decide_eq_false (by omega)
                    clear c27
                    (first | rw [c27b0] | (simp only [i64_w, i32_w]; rw [c27b0]) | skip)
                    have H' := Aside0.mk H
                    clear H
                    go_wp2
                    go_meet
                    case rel => exact ⟨_, (false), (x1001_1), qq13, H', ⟨qq52 HK1.out HK2.out⟩, ⟨qq65 HO_7.out⟩, ⟨qq9⟩, ⟨qq6⟩, ⟨qq8⟩⟩
                case rest =>
                  clear HC26
                  try clear c1
                  try clear p1
                  try clear q1
                  try clear hx1
                  try clear c2
                  try clear p2
                  try clear q2
                  try clear hx2
                  try clear hf2
                  try clear c3
                  try clear c4
                  try clear c5
                  try clear p6
                  try clear c11
                  try clear c11b0
                  try clear c13
                  try clear c16
                  try clear c16b0
                  try clear c17
                  try clear c17b0
                  try clear p17
                  try clear q17
                  try clear hx17
                  try clear c18
                  try clear c18b0
                  try clear p18
                  try clear q18
                  try clear hx18
                  try clear c19
                  try clear c19b0
                  try clear c20
                  try clear c20b0
                  try clear c21
                  try clear c21b0
                  try clear c22
                  try clear p22
                  try clear q22
                  try clear hx22
                  try clear hf22
                  try clear c24
                  try clear c25
                  try clear c27
                  try clear c27b0
                  try clear c27b1
                  try clear hx179_0
                  try clear hx179_1
                  try clear hx179_2
                  try clear hx179_3
                  try clear hx180_0
                  try clear hx181_0
                  try clear hx181_1
                  try clear hx181_2
                  try clear hx181_3
                  try clear hx182_0
                  try clear hx22_0
                  try clear hx22_1
                  try clear hx22_2
                  try clear hx22_3
                  try clear p179
                  try clear p180
                  try clear p181
                  try clear p182
                  try clear p2
                  try clear p22
                  try clear p6
                  try clear q179
                  try clear q180
                  try clear q181
                  try clear q182
                  try clear q22
                  obtain ⟨kq, x70_25, x1001_25, rfl, HA, HJ25, HO_7, HI0, HK, HB⟩ := hcut
                  cases kq with
                  | zero => exact absurd HA.out (by simp [spec_l91True.j2])
                  | succ kj25 =>
                    have H := HA.out
                    clear HA
                    simp only [spec_l91True.j2] at H
                    by_cases c30 : x70_25 = true
                    · subst c30
                      have H1 : ((spec_l6Rd_pick.f kj25 s0_0 x1001_25 (x7_2.length : Int)).bind fun bt186 => (if 0 ≤ bt186.1 then (if bt186.1 < (x7_2.length : Int) then ((spec_l6Rd_pick.f kj25 s0_0 bt186.2 9).bind fun bt189 => (some (t165, (x7_2.set (bt186.1 : Int).toNat (⟨(rd_T32 x7_2 bt186.1).f0, (rd_T32 x7_2 bt186.1).f1, wrap64 ((wrap64 (((rd_T32 x7_2 bt186.1).f2) + 1)) + bt189.1), (rd_T32 x7_2 bt186.1).f3⟩ : S32)), bt189.2))) else (none)) else (none))) = some (r1, r2, r3) := by rw [if_pos rfl] at H; exact H
                      clear H
                      have H := H1
                      clear H1
                      replace H := Option.bind_eq_some_iff.mp H
                      obtain ⟨⟨t186, t187⟩, A310, H⟩ := H
                      replace H : (if 0 ≤ t186 then (if t186 < (x7_2.length : Int) then ((spec_l6Rd_pick.f kj25 s0_0 t187 9).bind fun bt189 => (some (t165, (x7_2.set (t186 : Int).toNat (⟨(rd_T32 x7_2 t186).f0, (rd_T32 x7_2 t186).f1, wrap64 ((wrap64 (((rd_T32 x7_2 t186).f2) + 1)) + bt189.1), (rd_T32 x7_2 t186).f3⟩ : S32)), bt189.2))) else (none)) else (none)) = some (r1, r2, r3) := H
                      have A31 := Aside0.mk A310
                      clear A310
                      by_cases c32 : 0 ≤ t186
                      · rw [if_pos c32] at H
                        have c32b0 : decide (0 ≤ t186) = true := decide_eq_true c32
                        clear c32
                        by_cases c33 : t186 < (x7_2.length : Int)
                        · rw [if_pos c33] at H
                          have c33b0 : decide (t186 < (x7_2.length : Int)) = true := decide_eq_true c33
                          clear c33
                          replace H := Option.bind_eq_some_iff.mp H
                          obtain ⟨⟨t189, t190⟩, A340, H⟩ := H
                          replace H : (some (t165, (x7_2.set (t186 : Int).toNat (⟨(rd_T32 x7_2 t186).f0, (rd_T32 x7_2 t186).f1, wrap64 ((wrap64 (((rd_T32 x7_2 t186).f2) + 1)) + t189), (rd_T32 x7_2 t186).f3⟩ : S32)), t190)) = some (r1, r2, r3) := H
                          have A34 := Aside0.mk A340
                          clear A340
                          obtain ⟨y191, hy191⟩ : ∃ y_ : List (S32), y_ = (x7_2.set (t186 : Int).toNat (⟨(rd_T32 x7_2 t186).f0, (rd_T32 x7_2 t186).f1, wrap64 ((wrap64 (((rd_T32 x7_2 t186).f2) + 1)) + t189), (rd_T32 x7_2 t186).f3⟩ : S32)) := ⟨_, rfl⟩
                          replace H : (some (t165, y191, t190)) = some (r1, r2, r3) := by first | (rw [hy191]; with_reducible exact H) | (have H2_ := (Option.bind_some _ _).symm.trans H; rw [hy191]; with_reducible exact H2_) | (have H2_ := (Option.bind_some _ _).symm.trans H; with_reducible exact H2_) | with_reducible exact H | (rw [hy191]; exact H) | exact H
                          have Ny191 := Aside0.mk hy191
                          clear hy191
                          simp only [Option.some.injEq, Prod.mk.injEq] at H
                          obtain ⟨rfl, rfl, rfl⟩ := H
                          try go_wp2_with (first | ((with_reducible refine gate_callee (f := 36) rfl ?_); refine goesL_ (some 74) rfl rfl Try.func36 (by kernel_rfl) rfl #[.pointer (some ⟨g, 0, none⟩), .int .i64 (x7_2.length : Int)] rfl qq5 ?_; (with_reducible refine (spec_l6Rd_pick.calls kj25 g s0_0 x1001_25 (x7_2.length : Int) t186 t187 w0 _ ?side1 ?side2 A31.out).mono ?_); (case side1 => exact qq9); (case side2 => exact qq8); rintro e w36 ⟨rfl, hi, hb, hk⟩; refine ⟨_, rfl, ?_⟩; have n0_ := Aside0.mk (Kd.R_mono (Kd.R_keep (IsS61.apart (show IsS61 w0 _ g s0_0 x1001_25 from by repeat (first | (with_reducible first | exact HI0.out | apply IsS61.alloc | apply IsS61.drewN | apply IsS61.drew | apply IsS61.set_1) | exact HI0.out)) (qq2 HO_7.out) (by decide)) hk (fun _ h => h.2)) (fun _ h => h.1)); have n1_ := Aside0.mk (KeepBut.trans qq6 hk (.inl rfl)); have n2_ := Aside0.mk (hb); have n3_ := Aside0.mk (hi); clear HO_7; clear HK; clear HB; clear HI0; have HO_7 := n0_; have HK := n1_; have HB := n2_; have HI0 := n3_; clear n0_ n1_ n2_ n3_; (try clear hb); (try clear hb2); (try clear hk); (try clear hi)))
                          have n0_ := Aside0.mk (Kd.R_drew HO_7.out)
                          have n1_ := Aside0.mk (IsS61.drew HI0.out)
                          have n2_ := Aside0.mk (keep_drew HK.out)
                          have n3_ := Aside0.mk (below_drew1 HB.out)
                          clear HO_7
                          clear HI0
                          clear HK
                          clear HB
                          have HO_7 := n0_
                          have HI0 := n1_
                          have HK := n2_
                          have HB := n3_
                          clear n0_ n1_ n2_ n3_
                          have p188 : 0 ≤ (t186 : Int) := of_decide_eq_true qq3
                          have q188 : t186 < (x7_2.length : Int) := of_decide_eq_true qq3
                          obtain ⟨ad188, e188, hx188_0, hx188_1, hx188_2, hx188_3⟩ := at_T32 (Kd.R_reads' HO_7.out).2.2 t186 p188 q188
                          cases e188
                          replace p188 := eq_true p188
                          replace q188 := eq_true q188
                          refine start_ (n := 14) (S := fun w' => w'.cell? (ad188.add ((t186).toNat * 4)) = some (.int .i64 ((rd_T32 x7_2 t186).f0)) ∧ w'.cell? ⟨(ad188.add ((t186).toNat * 4)).block, (ad188.add ((t186).toNat * 4)).off + 1, none⟩ = some (.int .i64 ((rd_T32 x7_2 t186).f1)) ∧ w'.cell? ⟨(ad188.add ((t186).toNat * 4)).block, (ad188.add ((t186).toNat * 4)).off + 2, none⟩ = some (.int .i64 ((rd_T32 x7_2 t186).f2)) ∧ w'.cell? ⟨(ad188.add ((t186).toNat * 4)).block, (ad188.add ((t186).toNat * 4)).off + 3, none⟩ = some (.int .i64 ((rd_T32 x7_2 t186).f3))) (ds := [13]) #[false, false, false, false, false, false, false, false, false, false, false, false, false, false] (by kernel_rfl) rfl rfl ⟨hx188_0, hx188_1, hx188_2, hx188_3⟩ (fun hHeld => ?_); refine with_tabW spec_l91True.tab15 spec_l91True.bits15 (fun HT_ HW_ => ?_)
                          generalize w36.drew = w37 at HO_7 HI0 HK HB hx188_0 hx188_1 hx188_2 hx188_3 hHeld ⊢
                          refine pure_ (i := 0) (N := some 75) #[true, false, false, false, false, false, false, false, false, false, false, false, false, false] rfl rfl (any_of HT_.out (by kernel_rfl)) (fun _ _ _ h => h) (Or.inl ⟨by rfl, pA_⟩) pB_ ?_
                          refine pure_ (i := 1) (N := some 76) #[true, true, false, false, false, false, false, false, false, false, false, false, false, false] rfl rfl (any_of HT_.out (by kernel_rfl)) (fun _ _ _ h => h) (Or.inl ⟨by rfl, pA_⟩) pB_ ?_
                          refine pure_ (i := 2) (N := some 77) #[true, true, true, false, false, false, false, false, false, false, false, false, false, false] rfl rfl (any_of HT_.out (by kernel_rfl)) (fun _ _ _ h => h) (Or.inl ⟨by rfl, pA_⟩) pB_ ?_
                          refine pure_ (i := 3) (N := some 78) #[true, true, true, true, false, false, false, false, false, false, false, false, false, false] rfl rfl (any_of HT_.out (by kernel_rfl)) (fun _ _ _ h => h) (Or.inl ⟨by rfl, pA_⟩) pB_ ?_
                          refine pure_ (i := 4) (N := some 79) #[true, true, true, true, true, false, false, false, false, false, false, false, false, false] rfl rfl (any_of HT_.out (by kernel_rfl)) (fun _ _ _ h => h) (Or.inl ⟨by rfl, pA_⟩) pB_ ?_
                          refine pure_ (i := 5) (N := some 80) #[true, true, true, true, true, true, false, false, false, false, false, false, false, false] rfl rfl (any_of HT_.out (by kernel_rfl)) (fun _ _ _ h => h) (Or.inl ⟨by rfl, pA_⟩) pB_ ?_
                          refine pure_ (i := 8) (N := some 83) #[true, true, true, true, true, true, false, false, true, false, false, false, false, false] rfl rfl (any_of HT_.out (by kernel_rfl)) (fun _ _ _ h => h) (Or.inl ⟨by rfl, pA_⟩) pB_ ?_
                          refine take_ (i := 6) (N := some 81) (v := ?_) (a' := ?_) #[true, true, true, true, true, true, true, false, true, false, false, false, false, false] rfl rfl (take_ofW HT_.out HW_.out (by kernel_rfl)) (fun _ _ _ h => h) (Or.inl ⟨by rfl, ?_⟩) hHeld ?_ ?_
                          rotate_left
                          · rintro w' ⟨s0, s1, s2, s3⟩
                            go_simp
                            with_reducible rfl
                          rotate_left
                          · simp only [Act.put, List.setIfInBounds_toArray, List.set_cons_zero, List.set_cons_succ, i64_w, i32_w]
                            rfl
                          refine pure_ (i := 7) (N := some 82) #[true, true, true, true, true, true, true, true, true, false, false, false, false, false] rfl rfl (any_of HT_.out (by kernel_rfl)) (fun _ _ _ h => h) (Or.inl ⟨by rfl, pA_⟩) pB_ ?_
                          refine one_ (i := 9) (N := some 84) #[true, true, true, true, true, true, true, true, true, true, false, false, false, false] rfl rfl (one_of HT_.out (by kernel_rfl)) (by decide) (fun K hK => ?_)
                          refine goes_ Try.func36 (by kernel_rfl) rfl #[.pointer (some ⟨g, 0, none⟩), .int .i64 9] (by rfl) rfl rfl qq5 ?_
                          with_reducible refine (spec_l6Rd_pick.calls kj25 g s0_0 t187 9 t189 t190 w0 _ ?side1 ?side2 A34.out).mono ?_
                          (case side1 => exact qq9)
                          (case side2 => exact qq8)
                          rintro e w38 ⟨rfl, hi, hb, hk⟩
                          have HS0_ := keep_cell hk (hHeld.1) qq29
                          have HS1_ := keep_cell hk (hHeld.2.1) qq29
                          have HS2_ := keep_cell hk (hHeld.2.2.1) qq29
                          have HS3_ := keep_cell hk (hHeld.2.2.2) qq29
                          refine ⟨_, rfl, ?_⟩
                          have n0_ := Aside0.mk (Kd.R_mono (Kd.R_keep (IsS61.apart (show IsS61 w0 _ g s0_0 t187 from by repeat (first | (with_reducible first | exact HI0.out | apply IsS61.alloc | apply IsS61.drewN | apply IsS61.drew | apply IsS61.set_1) | exact HI0.out)) (qq2 HO_7.out) (by decide)) hk (fun _ h => h.2)) (fun _ h => h.1))
                          have n1_ := Aside0.mk (KeepBut.trans qq6 hk (.inl rfl))
                          have n2_ := Aside0.mk (hb)
                          have n3_ := Aside0.mk (hi)
                          clear HO_7
                          clear HK
                          clear HB
                          clear HI0
                          have HO_7 := n0_
                          have HK := n1_
                          have HB := n2_
                          have HI0 := n3_
                          clear n0_ n1_ n2_ n3_
                          (try clear hb)
                          (try clear hb2)
                          (try clear hk)
                          (try clear hi)
                          have p35 : 0 ≤ (t186 : Int) := of_decide_eq_true qq3
                          have q35 : (t186 : Int) < ((x7_2.length : Int) : Int) := of_decide_eq_true qq3
                          obtain ⟨go35, co35, eo35, gb35, gl35, cl35, HG35⟩ := Kd.R_form HO_7.out (by omega)
                          (first | cases eo35 | (injection eo35 with ea_ en_ ec_; (first | subst ea_ | (injection ea_ with ea_; subst ea_)); subst ec_; clear en_))
                          have GB35 := Aside0.mk gb35
                          have GG35 := Aside0.mk HG35
                          clear gb35 gl35 HG35
                          (first | simp only [add_plain] at hx188_0 | skip)
                          (first | simp only [add_plain] at hx188_1 | skip)
                          (first | simp only [add_plain] at hx188_2 | skip)
                          (first | simp only [add_plain] at hx188_3 | skip)
                          obtain ⟨ce35, hcl35, hM35, hcc35, hfr35⟩ := Kd.R_elem HO_7.out z32 (t186 : Int) p35 q35
                          obtain rfl := k32_openM hM35
                          have hx35_0 : World.cell? _ ⟨go35, (t186 : Int).toNat * 4, none⟩ = some (.int .i64 ((rd_T32 x7_2 t186).f0)) := hcc35 0 _ rfl
                          have hx35_1 : World.cell? _ ⟨go35, (t186 : Int).toNat * 4 + 1, none⟩ = some (.int .i64 ((rd_T32 x7_2 t186).f1)) := hcc35 1 _ rfl
                          have hx35_2 : World.cell? _ ⟨go35, (t186 : Int).toNat * 4 + 2, none⟩ = some (.int .i64 ((rd_T32 x7_2 t186).f2)) := hcc35 2 _ rfl
                          have hx35_3 : World.cell? _ ⟨go35, (t186 : Int).toNat * 4 + 3, none⟩ = some (.int .i64 ((rd_T32 x7_2 t186).f3)) := hcc35 3 _ rfl
                          have hf35_0 : World.frozen? _ ⟨go35, (t186 : Int).toNat * 4, none⟩ = false := hfr35 0
                          have hf35_1 : World.frozen? _ ⟨go35, (t186 : Int).toNat * 4 + 1, none⟩ = false := hfr35 1
                          have hf35_2 : World.frozen? _ ⟨go35, (t186 : Int).toNat * 4 + 2, none⟩ = false := hfr35 2
                          have hf35_3 : World.frozen? _ ⟨go35, (t186 : Int).toNat * 4 + 3, none⟩ = false := hfr35 3
                          clear hcl35 hcc35 hfr35
                          (try clear hM35)
                          replace p35 := eq_true p35
                          replace q35 := eq_true q35
                          have HN0_go35 := Aside0.mk (show g ≠ go35 from by have h_ := IsS61.own_ne HI0.out HO_7.out (by decide); intro e_; exact h_ (by rw [e_]; rfl))
                          obtain ⟨ce39, hcl39, hM39, hcc39, hfr39⟩ := Kd.R_elem HO_7.out z32 (t186 : Int) (of_decide_eq_true qq3) (by have h_ : (t186 : Int) < ((x7_2.length : Int) : Int) := of_decide_eq_true qq3; first | exact h_ | (have e_ := (Kd.R_reads' HO_7.out).1; omega) | simpa using h_)
                          obtain rfl := k32_openM hM39
                          have HP39 := (Kd.R_seg HO_7.out (t186 : Int) (of_decide_eq_true qq3) (by have h_ : (t186 : Int) < ((x7_2.length : Int) : Int) := of_decide_eq_true qq3; first | exact h_ | (have e_ := (Kd.R_reads' HO_7.out).1; omega) | simpa using h_) (seg := [.int .i64 (wrap64 ((wrap64 (((rd_T32 x7_2 t186).f2) + 1)) + t189))]) (j := 2) hcl39 hcc39 (show 3 ≤ 4 from by decide) (x' := (⟨(rd_T32 x7_2 t186).f0, (rd_T32 x7_2 t186).f1, wrap64 ((wrap64 (((rd_T32 x7_2 t186).f2) + 1)) + t189), (rd_T32 x7_2 t186).f3⟩ : S32)) (k32_mkM _ _ _ (⟨(rd_T32 x7_2 t186).f0, (rd_T32 x7_2 t186).f1, wrap64 ((wrap64 (((rd_T32 x7_2 t186).f2) + 1)) + t189), (rd_T32 x7_2 t186).f3⟩ : S32) ) (fun _ hk => hk)).1
                          rw [← Ny191.out] at HP39
                          have HQ39 := Aside0.mk HP39
                          clear hcl39 hcc39 hfr39 HP39
                          (try clear hM39)
                          refine hK.out _ _ ⟨HS0_, HS1_, HS2_, HS3_⟩ (fun hHeld => ?_)
                          clear hK K
                          refine norm_ (a' := ?_) ?_ ?_
                          rotate_left
                          · show Act.put _ (some 84) _ = _
                            simp only [Act.put, List.setIfInBounds_toArray, List.set_cons_zero, List.set_cons_succ, i64_w, i32_w]
                            rfl
                          refine pure_ (i := 10) (N := some 85) #[true, true, true, true, true, true, true, true, true, true, true, false, false, false] rfl rfl (any_of HT_.out (by kernel_rfl)) (fun _ _ _ h => h) (Or.inl ⟨by rfl, pA_⟩) pB_ ?_
                          refine pure_ (i := 11) (N := some 86) #[true, true, true, true, true, true, true, true, true, true, true, true, false, false] rfl rfl (any_of HT_.out (by kernel_rfl)) (fun _ _ _ h => h) (Or.inl ⟨by rfl, pA_⟩) pB_ ?_
                          refine pure_ (i := 12) (N := some 87) #[true, true, true, true, true, true, true, true, true, true, true, true, true, false] rfl rfl (any_of HT_.out (by kernel_rfl)) (fun _ _ _ h => h) (Or.inl ⟨by rfl, pA_⟩) pB_ ?_
                          refine last_ (i := 13) (N := none) #[true, true, true, true, true, true, true, true, true, true, true, true, true, true] rfl rfl (one_of HT_.out (by kernel_rfl)) (by decide) (fun K hK => ?_)
                          refine skip_ (w1 := ?_) (by rfl) rfl ?_ ?_
                          rotate_left
                          · go_simp
                            rfl
                          refine hK.out _ _ ?_
                          clear hK K
                          refine done_ (done_of HT_.out (by kernel_rfl)) ?_
                          try go_wp2
                          go_ret2
                          exact ⟨_, qq11, qq2 HQ39.out, qq25 HI0.out HN0_go35.out, qq77 HB.out HL.out GB35.out HI0.out, qq27 HK.out GB35.out⟩
                        · rw [if_neg c33] at H
                          exact absurd H (by simp)
                      · rw [if_neg c32] at H
                        exact absurd H (by simp)
                    · replace c30 := Bool.eq_false_iff.mpr c30
                      subst c30
                      have H1 : (some (t165, x7_2, x1001_25)) = some (r1, r2, r3) := by rw [if_neg (show ¬ (false = true) by decide)] at H; exact H
                      clear H
                      have H := H1
                      clear H1
                      simp only [Option.some.injEq, Prod.mk.injEq] at H
                      obtain ⟨rfl, rfl, rfl⟩ := H
                      go_wp2
                      go_ret2
                      exact ⟨_, qq11, qq2 HO_7.out, qq9, qq8, qq6⟩
  · replace c5 := Bool.eq_false_iff.mpr c5
    subst c5
    have H1 : (some (t165, t166, t169)) = some (r1, r2, r3) := by rw [if_neg (show ¬ (false = true) by decide)] at H; exact H
    clear H
    have H := H1
    clear H1
    simp only [Option.some.injEq, Prod.mk.injEq] at H
    obtain ⟨rfl, rfl, rfl⟩ := H
    go_enter Try.func24, Try.ntmps24
    go_wp2_with (first | ((with_reducible refine gate_callee (f := 44) rfl ?_); refine goesL_ (some 15) rfl rfl Try.func44 (by kernel_rfl) rfl #[.pointer (some ⟨g, 0, none⟩), .int .i64 a1] rfl qq5 ?_; (with_reducible refine (spec_l91Net.calls k g s0_0 s0_1 a1 t165 t166 t169 w0 _ ?side1 ?side2 A3.out).mono ?_); (case side1 => exact qq9); (case side2 => exact qq8); rintro e w40 ⟨v167, rfl, ho0, hi, hb, hk⟩; refine ⟨_, rfl, ?_⟩; have n0_ := Aside0.mk (Kd.R_lower ho0 (keep_size (w := w) (g := g) (row := none) qq6)); have n1_ := Aside0.mk (KeepBut.trans qq6 hk (.inl rfl)); have n2_ := Aside0.mk (hb); have n3_ := Aside0.mk (hi); clear HK; clear HB; clear HI0; have HO168 := n0_; have HK := n1_; have HB := n2_; have HI0 := n3_; clear n0_ n1_ n2_ n3_; (try clear hb); (try clear hb2); (try clear hk); (try clear hi); (try clear ho0); obtain ⟨Ao41, co41, eo41⟩ := Kd.R_slice HO168.out; subst eo41) | ((with_reducible refine gate_callee (f := 45) rfl ?_); refine goesL_ (some 20) rfl rfl Try.func45 (by kernel_rfl) rfl #[.int .i64 t165, .slice Ao41 t166.length co41] rfl qq5 ?_; (with_reducible refine (spec_NetValid.calls k t165 _ _ t166 false _ ?side1 ?side2 A4.out).mono ?_); (case side1 => exact qq12 HO168.out); (case side2 => exact qq50 HO168.out); rintro e w42 ⟨rfl, hb⟩; refine ⟨_, rfl, ?_⟩; have n0_ := Aside0.mk (Kd.R_below (qq2 HO168.out) hb); have n1_ := Aside0.mk (IsS61.below qq9 hb); have n2_ := Aside0.mk (KeepBut.trans qq6 (KeepBut.of_below hb g none) (.inl rfl)); have n3_ := Aside0.mk (below_step qq8 hb); clear HO168; clear HI0; clear HK; clear HB; have HO168 := n0_; have HI0 := n1_; have HK := n2_; have HB := n3_; clear n0_ n1_ n2_ n3_; (try clear hb); (try clear hb2); (try clear hk); (try clear hi)))
    go_ret2
    exact ⟨_, qq11, qq2 HO168.out, qq9, qq8, qq6⟩

end Go.Proofs.Ytmcfhmflncghiaa.Q
namespace Go.Proofs.Ytmcfhmflncghiaa.Q
open Go.RowKit Go.Proofs.YtmcfhmflncghiaaW.PrintWords Go.Proofs.YtmcfhmflncghiaaW.PrintLast Go.Proofs.YtmcfhmflncghiaaW.PrintMore
attribute [local go_sem] max2_int min2_int max_two min_two max_three min_three max_four min_four
set_option linter.unusedVariables false
set_option linter.unusedSimpArgs false

/-! ### spec_l6Open: function 25 -/
def spec_l6Open.f (l0 : List Int) : Option (List Int × Int) := if (l0.length : Int) > 2000 then (if 2000 ≤ (l0.length : Int) then (some (l0.take 2000, 0)) else (none)) else (some (l0, 0))
set_option maxHeartbeats 8000000 in
set_option maxRecDepth 100000 in
theorem spec_l6Open.calls (A0 : Option Addr) (c0 : Nat) (l0 : List Int) (r1 : List Int) (r2 : Int) (w0 w : World) (hB : Below w0.heap.size w0 w) (hr0 : Kd.C (Kd.int .u8) w0 A0 l0.length l0) (hc0 : l0.length ≤ c0) (h : spec_l6Open.f l0 = some (r1, r2)) :
    Calls Try.prog 25 #[.slice A0 l0.length c0] w fun e w' => ∃ g_ : Nat, e = .returned (.pointer (some ⟨g_, 0, none⟩)) ∧ IsS61 w0 w' g_ r1 r2 ∧ Below w0.heap.size w0 w' ∧ Below w.heap.size w w' := by
  have hu61 := Try.underlying61
  have HR0 := Aside0.mk hr0
  have HC0 := Aside0.mk hc0
  clear hr0 hc0
  have HBW := Aside0.mk (Below.refl w.heap.size w)
  have HW0 := Aside0.mk hB.size
  have HB := Aside0.mk hB
  clear hB
  have H : (if (l0.length : Int) > 2000 then (if 2000 ≤ (l0.length : Int) then (some (l0.take 2000, 0)) else (none)) else (some (l0, 0))) = some (r1, r2) := h
  clear h
  by_cases c2 : (l0.length : Int) > 2000
  · rw [if_pos c2] at H
    have c2b0 : decide (2000 < (l0.length : Int)) = true := decide_eq_true c2
    have c2b1 : decide (2000 < l0.length) = true := decide_eq_true (by omega)
    clear c2
    by_cases c3 : 2000 ≤ (l0.length : Int)
    · rw [if_pos c3] at H
      have c3b0 := eq_true c3
      have c3b1 : decide (2000 ≤ (l0.length : Int)) = true := decide_eq_true c3
      clear c3
      simp only [Option.some.injEq, Prod.mk.injEq] at H
      obtain ⟨rfl, rfl⟩ := H
      obtain ⟨i04, hi04, _, hsz4, _⟩ := info_parts info5
      obtain ⟨hcut4, hA4, hC4⟩ := print_take_of (P := Try.prog) (Value.int .u8) 0 22 5 .i64 Try.underlying22 hi04 hsz4 A0 c0 l0 2000 (by omega) (of_decide_eq_true qq3) HC0.out
      have HR192 := Aside0.mk (Kd.C_of_reads (h1 := fun _ => rfl) (hA4 _ (Kd.reads_of_C HR0.out)))
      have HC192 := Aside0.mk hC4
      clear hA4 hC4 hi04 hsz4
      go_enter Try.func25, Try.ntmps25
      go_wp2_with (first | ((with_reducible refine gate_dst (N := 10) rfl ?_); refine box_event ?hg (N := 10) ?hd (cs := #[.slice A0 (l0.take 2000).length c0, .int .i64 0]) (t := 61) ?hr ?_; (case hd => rfl); (case hg => rfl); (case hr => exact qq16); intro gb193 hg w5 hbox hb; have n0_ := Aside0.mk (below_step HBW.out hb); have n1_ := Aside0.mk (below_step qq1 hb); have n2_ := Aside0.mk (hbox); have n3_ := Aside0.mk ((qq48 : w.heap.size ≤ gb193)); have n4_ := Aside0.mk ((Nat.le_trans HW0.out (qq48 : w.heap.size ≤ gb193) : w0.heap.size ≤ gb193)); clear HBW; clear HB; have HBW := n0_; have HB := n1_; have BK193 := n2_; have GW193 := n3_; have GE193 := n4_; clear n0_ n1_ n2_ n3_ n4_; clear hb hbox hg))
      go_ret
      exact ⟨_, rfl, (show IsS61 w0 _ gb193 (l0.take 2000) 0 from ⟨_, _, qq23 BK193.out, GE193.out, HR192.out⟩), qq4 HB.out GE193.out, qq4 HBW.out GW193.out⟩
    · rw [if_neg c3] at H
      exact absurd H (by simp)
  · rw [if_neg c2] at H
    have c2b0 : decide (2000 < (l0.length : Int)) = false := decide_eq_false c2
    have c2b1 : decide (2000 < l0.length) = false := decide_eq_false (by omega)
    clear c2
    simp only [Option.some.injEq, Prod.mk.injEq] at H
    obtain ⟨rfl, rfl⟩ := H
    go_enter Try.func25, Try.ntmps25
    go_wp2_with (first | ((with_reducible refine gate_dst (N := 10) rfl ?_); refine box_event ?hg (N := 10) ?hd (cs := #[.slice A0 l0.length c0, .int .i64 0]) (t := 61) ?hr ?_; (case hd => rfl); (case hg => rfl); (case hr => exact qq16); intro gb194 hg w6 hbox hb; have n0_ := Aside0.mk (below_step HBW.out hb); have n1_ := Aside0.mk (below_step qq1 hb); have n2_ := Aside0.mk (hbox); have n3_ := Aside0.mk ((qq48 : w.heap.size ≤ gb194)); have n4_ := Aside0.mk ((Nat.le_trans HW0.out (qq48 : w.heap.size ≤ gb194) : w0.heap.size ≤ gb194)); clear HBW; clear HB; have HBW := n0_; have HB := n1_; have BK194 := n2_; have GW194 := n3_; have GE194 := n4_; clear n0_ n1_ n2_ n3_ n4_; clear hb hbox hg))
    go_ret
    exact ⟨_, rfl, (show IsS61 w0 _ gb194 l0 0 from ⟨_, _, qq23 BK194.out, GE194.out, HR0.out⟩), qq4 HB.out GE194.out, qq4 HBW.out GW194.out⟩

end Go.Proofs.Ytmcfhmflncghiaa.Q
namespace Go.Proofs.Ytmcfhmflncghiaa.Q
open Go.RowKit Go.Proofs.YtmcfhmflncghiaaW.PrintWords Go.Proofs.YtmcfhmflncghiaaW.PrintLast Go.Proofs.YtmcfhmflncghiaaW.PrintMore
attribute [local go_sem] max2_int min2_int max_two min_two max_three min_three max_four min_four
set_option linter.unusedVariables false
set_option linter.unusedSimpArgs false

/-! ### spec_DrawLoopErrors: function 14 -/
def spec_DrawLoopErrors.f (k : Nat) (l0 : List Int) : Option (Int × (List (S32))) := (spec_l6Open.f l0).bind fun bt525 => ((spec_l91True.f k bt525.1 bt525.2 6).bind fun bt528 => (some (bt528.1, bt528.2.1)))
set_option maxHeartbeats 8000000 in
set_option maxRecDepth 100000 in
theorem spec_DrawLoopErrors.calls (k : Nat) (A0 : Option Addr) (c0 : Nat) (l0 : List Int) (r1 : Int) (r2 : List (S32)) (w : World) (hr0 : Kd.C (Kd.int .u8) w A0 l0.length l0) (hc0 : l0.length ≤ c0) (h : spec_DrawLoopErrors.f k l0 = some (r1, r2)) :
    Calls Try.prog 14 #[.slice A0 l0.length c0] w fun e w' => ∃ v1_ : Value, e = .returned (.tuple #[.int .i64 r1, v1_]) ∧ Kd.R k32 32 w' w.heap.size (fun _ => True) v1_ r2 ∧ Below w.heap.size w w' := by
  have HR0 := Aside0.mk hr0
  have HC0 := Aside0.mk hc0
  clear hr0 hc0
  have HB := Aside0.mk (Below.refl w.heap.size w)
  have H : ((spec_l6Open.f l0).bind fun bt525 => ((spec_l91True.f k bt525.1 bt525.2 6).bind fun bt528 => (some (bt528.1, bt528.2.1)))) = some (r1, r2) := h
  clear h
  replace H := Option.bind_eq_some_iff.mp H
  obtain ⟨⟨t525, t526⟩, A20, H⟩ := H
  replace H : ((spec_l91True.f k t525 t526 6).bind fun bt528 => (some (bt528.1, bt528.2.1))) = some (r1, r2) := H
  have A2 := Aside0.mk A20
  clear A20
  replace H := Option.bind_eq_some_iff.mp H
  obtain ⟨⟨t528, t529, t532⟩, A30, H⟩ := H
  replace H : (some (t528, t529)) = some (r1, r2) := H
  have A3 := Aside0.mk A30
  clear A30
  simp only [Option.some.injEq, Prod.mk.injEq] at H
  obtain ⟨rfl, rfl⟩ := H
  go_enter Try.func14, Try.ntmps14
  go_wp2_with (first | ((with_reducible refine gate_callee (f := 25) rfl ?_); refine goesL_ (some 5) rfl rfl Try.func25 (by kernel_rfl) rfl #[.slice A0 l0.length c0] rfl qq5 ?_; (with_reducible refine (spec_l6Open.calls _ _ l0 t525 t526 w _ ?side1 ?side2 ?side3 A2.out).mono ?_); (case side1 => exact qq1); (case side2 => exact HR0.out); (case side3 => exact HC0.out); rintro e w4 ⟨g527, rfl, hi, hb, hb2⟩; refine ⟨_, rfl, ?_⟩; have n0_ := Aside0.mk (hb); have n1_ := Aside0.mk (hi); clear HB; have HB := n0_; have HI527 := n1_; clear n0_ n1_; (try clear hb); (try clear hb2); (try clear hk); (try clear hi)) | ((with_reducible refine gate_callee (f := 24) rfl ?_); refine goesL_ (some 6) rfl rfl Try.func24 (by kernel_rfl) rfl #[.pointer (some ⟨g527, 0, none⟩), .int .i64 6] rfl qq5 ?_; (with_reducible refine (spec_l91True.calls k g527 t525 t526 6 t528 t529 t532 w _ ?side1 ?side2 A3.out).mono ?_); (case side1 => repeat (first | (with_reducible first | exact HI527.out | apply IsS61.alloc | apply IsS61.drewN | apply IsS61.drew | apply IsS61.set_1) | exact HI527.out)); (case side2 => exact qq51); rintro e w5 ⟨v530, rfl, ho0, hi, hb, hk⟩; refine ⟨_, rfl, ?_⟩; have n0_ := Aside0.mk (Kd.R_lower ho0 (below_size qq51)); have n1_ := Aside0.mk (hb); have n2_ := Aside0.mk (hi); clear HB; clear HI527; have HO531 := n0_; have HB := n1_; have HI527 := n2_; clear n0_ n1_ n2_; (try clear hb); (try clear hb2); (try clear hk); (try clear hi); (try clear ho0)))
  go_ret2
  exact ⟨_, qq11, qq2 HO531.out, qq51⟩

end Go.Proofs.Ytmcfhmflncghiaa.Q
namespace Go.Proofs.Ytmcfhmflncghiaa.Q
open Go.RowKit Go.Proofs.YtmcfhmflncghiaaW.PrintWords Go.Proofs.YtmcfhmflncghiaaW.PrintLast Go.Proofs.YtmcfhmflncghiaaW.PrintMore
attribute [local go_sem] max2_int min2_int max_two min_two max_three min_three max_four min_four
set_option linter.unusedVariables false
set_option linter.unusedSimpArgs false

/-! ### impl_NetLoops: function 18 -/
def impl_NetLoops.l0 : Nat → Int → List Int → Int → Int → Option (Int)
  | 0, _, _, _, _ => none
  | k + 1, x5, x18, x19, x20 => if x20 < x19 then (if 0 ≤ x20 then (if x20 < (x18.length : Int) then (if x20 = (rd x18 x20) then (impl_NetLoops.l0 k (wrap64 (x5 + 1)) x18 x19 (wrap64 (x20 + 1))) else (impl_NetLoops.l0 k x5 x18 x19 (wrap64 (x20 + 1)))) else (none)) else (none)) else (some x5)
def impl_NetLoops.f (k : Nat) (a0 : Int) (l1 : List (S32)) : Option (Int) := (impl_NetValid.f k a0 l1).bind fun t535 => (if t535 = true then ((impl_leastLinked.f a0 l1).bind fun t536 => (impl_NetLoops.l0 k (wrap64 ((l1.length : Int) - a0)) t536 (t536.length : Int) 0)) else (some (-1)))
set_option maxHeartbeats 8000000 in
set_option maxRecDepth 100000 in
theorem impl_NetLoops.calls (k : Nat) (a0 : Int) (A1 : Option Addr) (c1 : Nat) (l1 : List (S32)) (r : Int) (w : World) (hr1 : Kd.C k32 w A1 l1.length l1) (hc1 : l1.length ≤ c1) (h : impl_NetLoops.f k a0 l1 = some r) :
    Calls Try.prog 18 #[.int .i64 a0, .slice A1 l1.length c1] w fun e w' => e = .returned (.int .i64 r) ∧ Below w.heap.size w w' := by
  have HR1 := Aside0.mk hr1
  have HC1 := Aside0.mk hc1
  clear hr1 hc1
  have HB := Aside0.mk (Below.refl w.heap.size w)
  have H : ((impl_NetValid.f k a0 l1).bind fun t535 => (if t535 = true then ((impl_leastLinked.f a0 l1).bind fun t536 => (impl_NetLoops.l0 k (wrap64 ((l1.length : Int) - a0)) t536 (t536.length : Int) 0)) else (some (-1)))) = some r := h
  clear h
  replace H := Option.bind_eq_some_iff.mp H
  obtain ⟨t535, A30, H⟩ := H
  replace H : (if t535 = true then ((impl_leastLinked.f a0 l1).bind fun t536 => (impl_NetLoops.l0 k (wrap64 ((l1.length : Int) - a0)) t536 (t536.length : Int) 0)) else (some (-1))) = some r := H
  have A3 := Aside0.mk A30
  clear A30
  by_cases c4 : t535 = true
  · subst c4
    have H1 : ((impl_leastLinked.f a0 l1).bind fun t536 => (impl_NetLoops.l0 k (wrap64 ((l1.length : Int) - a0)) t536 (t536.length : Int) 0)) = some r := by rw [if_pos rfl] at H; exact H
    clear H
    have H := H1
    clear H1
    replace H := Option.bind_eq_some_iff.mp H
    obtain ⟨t536, A50, H⟩ := H
    replace H : (impl_NetLoops.l0 k (wrap64 ((l1.length : Int) - a0)) t536 (t536.length : Int) 0) = some r := H
    have A5 := Aside0.mk A50
    clear A50
    have H' := Aside0.mk H
    clear H
    go_enter Try.func18, Try.ntmps18
    go_wp2_with (first | ((with_reducible refine gate_callee (f := 23) rfl ?_); refine goesL_ (some 10) rfl rfl Try.func23 (by kernel_rfl) rfl #[.int .i64 a0, .slice A1 l1.length c1] rfl qq5 ?_; (with_reducible refine (impl_NetValid.calls k a0 _ _ l1 true _ ?side1 ?side2 A3.out).mono ?_); (case side1 => exact qq15 HR1.out); (case side2 => exact HC1.out); rintro e w6 ⟨rfl, hb⟩; refine ⟨_, rfl, ?_⟩; have n0_ := Aside0.mk (below_step qq1 hb); clear HB; have HB := n0_; clear n0_; (try clear hb); (try clear hb2); (try clear hk); (try clear hi)) | ((with_reducible refine gate_callee (f := 26) rfl ?_); refine goesL_ (some 18) rfl rfl Try.func26 (by kernel_rfl) rfl #[.int .i64 a0, .slice A1 l1.length c1] rfl qq5 ?_; (with_reducible refine (impl_leastLinked.calls a0 _ _ l1 t536 _ ?side1 ?side2 A5.out).mono ?_); (case side1 => exact qq35); (case side2 => exact HC1.out); rintro e w7 ⟨v537, rfl, ho0, hb⟩; refine ⟨_, rfl, ?_⟩; have n0_ := Aside0.mk (Kd.R_lower ho0 (below_size qq1)); have n1_ := Aside0.mk (below_step qq1 hb); clear HB; have HO538 := n0_; have HB := n1_; clear n0_ n1_; (try clear hb); (try clear hb2); (try clear hk); (try clear hi); (try clear ho0); obtain ⟨Ao8, co8, eo8⟩ := Kd.R_slice HO538.out; subst eo8))
    go_loopg [5, 20] k (fun kq v5 v20 w' => ∃ (x5_1 : Int) (x20_1 : Int), v5 = .int .i64 x5_1 ∧ v20 = .int .i64 x20_1 ∧ Aside0 (impl_NetLoops.l0 kq x5_1 t536 (t536.length : Int) x20_1 = some r) ∧ Aside0 (kq ≤ k) ∧ Aside0 (Kd.R (Kd.int .i64) 3 w' w.heap.size (fun _ => True) (.slice Ao8 t536.length co8) t536) ∧ Aside0 (Below w.heap.size w w'))
    case atStart => exact ⟨(wrap64 ((l1.length : Int) - a0)), (0), qq13, qq13, H', ⟨Nat.le_refl _⟩, ⟨qq2 HO538.out⟩, ⟨qq1⟩⟩
    case round =>
      clear H'
      try clear c1
      try clear c2
      try clear p2
      try clear c4
      try clear p6
      obtain ⟨x5_1, x20_1, rfl, rfl, HA, HK1, HO_18, HB⟩ := hrel
      cases gk with
      | zero => exact absurd HA.out (by simp [impl_NetLoops.l0])
      | succ k1 =>
        have H := HA.out
        clear HA
        simp only [impl_NetLoops.l0] at H
        by_cases c9 : x20_1 < (t536.length : Int)
        · rw [if_pos c9] at H
          have c9b0 : decide (x20_1 < (t536.length : Int)) = true := decide_eq_true c9
          clear c9
          by_cases c10 : 0 ≤ x20_1
          · rw [if_pos c10] at H
            have c10b0 : decide (0 ≤ x20_1) = true := decide_eq_true c10
            clear c10
            by_cases c11 : x20_1 < (t536.length : Int)
            · rw [if_pos c11] at H
              have c11b0 : decide (x20_1 < (t536.length : Int)) = true := decide_eq_true c11
              clear c11
              by_cases c12 : x20_1 = (rd t536 x20_1)
              · rw [if_pos c12] at H
                have c12b0 : (x20_1 == (rd t536 x20_1)) = true := beq_iff_eq.mpr c12
                have c12b1 : (x20_1 != (rd t536 x20_1)) = false := bne_eq_false_iff_eq.mpr c12
                clear c12
                have H' := Aside0.mk H
                clear H
                have p539 : 0 ≤ (x20_1 : Int) := of_decide_eq_true qq3
                have q539 : x20_1 < (t536.length : Int) := of_decide_eq_true qq3
                obtain ⟨ad539, e539, hx539_0⟩ := Kd.at_int (Kd.R_reads' HO_18.out).2.2 x20_1 p539 q539
                cases e539
                replace p539 := eq_true p539
                replace q539 := eq_true q539
                go_wp2
                go_roundg k1
                case measure => have := HK1.out; omega
                case rel => exact ⟨(wrap64 (x5_1 + 1)), (wrap64 (x20_1 + 1)), qq13, qq13, H', ⟨by have := HK1.out; omega⟩, ⟨qq2 HO_18.out⟩, ⟨qq1⟩⟩
              · rw [if_neg c12] at H
                have c12b0 : (x20_1 == (rd t536 x20_1)) = false := beq_eq_false_iff_ne.mpr c12
                have c12b1 : (x20_1 != (rd t536 x20_1)) = true := bne_iff_ne.mpr c12
                have H' := Aside0.mk H
                clear H
                have p539 : 0 ≤ (x20_1 : Int) := of_decide_eq_true qq3
                have q539 : x20_1 < (t536.length : Int) := of_decide_eq_true qq3
                obtain ⟨ad539, e539, hx539_0⟩ := Kd.at_int (Kd.R_reads' HO_18.out).2.2 x20_1 p539 q539
                cases e539
                replace p539 := eq_true p539
                replace q539 := eq_true q539
                go_wp2
                go_roundg k1
                case measure => have := HK1.out; omega
                case rel => exact ⟨(x5_1), (wrap64 (x20_1 + 1)), qq13, qq13, H', ⟨by have := HK1.out; omega⟩, ⟨qq2 HO_18.out⟩, ⟨qq1⟩⟩
            · rw [if_neg c11] at H
              exact absurd H (by simp)
          · rw [if_neg c10] at H
            exact absurd H (by simp)
        · rw [if_neg c9] at H
          have c9b0 : decide (x20_1 < (t536.length : Int)) = false := decide_eq_false c9
          clear c9
          obtain rfl := Option.some.inj H
          go_wp2
          go_ret
          exact ⟨qq11, qq1⟩
  · replace c4 := Bool.eq_false_iff.mpr c4
    subst c4
    have H1 : (some (-1)) = some r := by rw [if_neg (show ¬ (false = true) by decide)] at H; exact H
    clear H
    have H := H1
    clear H1
    obtain rfl := Option.some.inj H
    go_enter Try.func18, Try.ntmps18
    go_wp2_with (first | ((with_reducible refine gate_callee (f := 23) rfl ?_); refine goesL_ (some 10) rfl rfl Try.func23 (by kernel_rfl) rfl #[.int .i64 a0, .slice A1 l1.length c1] rfl qq5 ?_; (with_reducible refine (impl_NetValid.calls k a0 _ _ l1 false _ ?side1 ?side2 A3.out).mono ?_); (case side1 => exact qq15 HR1.out); (case side2 => exact HC1.out); rintro e w13 ⟨rfl, hb⟩; refine ⟨_, rfl, ?_⟩; have n0_ := Aside0.mk (below_step qq1 hb); clear HB; have HB := n0_; clear n0_; (try clear hb); (try clear hb2); (try clear hk); (try clear hi)))
    go_ret
    exact ⟨qq11, qq1⟩

end Go.Proofs.Ytmcfhmflncghiaa.Q
namespace Go.Proofs.Ytmcfhmflncghiaa.Q
open Go.RowKit Go.Proofs.YtmcfhmflncghiaaW.PrintWords Go.Proofs.YtmcfhmflncghiaaW.PrintLast Go.Proofs.YtmcfhmflncghiaaW.PrintMore
attribute [local go_sem] max2_int min2_int max_two min_two max_three min_three max_four min_four
set_option linter.unusedVariables false
set_option linter.unusedSimpArgs false

/-! ### laws_FnLoopErrors: function 4 -/
mutual
def laws_FnLoopErrors.j0 : Nat → Int → List (S32) → List Int → Bool → List Int → Bool → Bool → Option (Bool)
  | 0, _, _, _, _, _, _, _ => none
  | k + 1, x3, x4, x5, x6, x7, x8, x47 => if x47 = true then (if (x6 == x8) = true then ((laws_sameInts.f k x5 x7).bind fun t553 => (some t553)) else (some false)) else ((impl_TreeFirst.f k x3 x4).bind fun bt554 => ((impl_TreeHeights.f k x3 x4 bt554.1).bind fun bt558 => (laws_FnLoopErrors.l0 k x3 x4 x5 bt554.2 bt558.1 bt558.2 true 0)))
def laws_FnLoopErrors.l0 : Nat → Int → List (S32) → List Int → Bool → List Int → Bool → Bool → Int → Option (Bool)
  | 0, _, _, _, _, _, _, _, _ => none
  | k + 1, x3, x4, x5, x10, x11, x12, x13, x14 => if x14 < (x5.length : Int) then (if x13 = true then (if 0 ≤ x14 then (laws_FnLoopErrors.l0 k x3 x4 x5 x10 x11 x12 ((rd x5 x14) == 0) (wrap64 (x14 + 1))) else (none)) else (laws_FnLoopErrors.l0 k x3 x4 x5 x10 x11 x12 false (wrap64 (x14 + 1)))) else (if x10 = true then (if x12 = true then ((impl_NetLoops.f k x3 x4).bind fun t563 => (if (x5.length : Int) = t563 then ((impl_LoopCloses.f k x3 x4).bind fun t564 => (if (t564 == x13) = true then ((impl_NetFits.f k x3 x4 x11).bind fun t565 => (some (t565 == x13))) else (some false))) else (some false))) else (some false)) else (some false))
end
def laws_FnLoopErrors.f (k : Nat) (l0 : List Int) : Option (Bool) := if (l0.length : Int) > 1048576 then (some true) else ((spec_DrawLoopErrors.f k l0).bind fun bt540 => ((impl_LoopErrors.f k bt540.1 bt540.2).bind fun bt544 => ((spec_LoopErrors.f k bt540.1 bt540.2).bind fun bt548 => (if (bt544.2 != bt548.2) = true then (laws_FnLoopErrors.j0 k bt540.1 bt540.2 bt544.1 bt544.2 bt548.1 bt548.2 true) else ((laws_sameInts.f k bt544.1 bt548.1).bind fun t552 => (if t552 = true then (laws_FnLoopErrors.j0 k bt540.1 bt540.2 bt544.1 bt544.2 bt548.1 bt548.2 (!bt544.2)) else (laws_FnLoopErrors.j0 k bt540.1 bt540.2 bt544.1 bt544.2 bt548.1 bt548.2 true)))))))
set_option maxHeartbeats 8000000 in
set_option maxRecDepth 100000 in
theorem laws_FnLoopErrors.calls (k : Nat) (A0 : Option Addr) (c0 : Nat) (l0 : List Int) (r : Bool) (w : World) (hr0 : Kd.C (Kd.int .u8) w A0 l0.length l0) (hc0 : l0.length ≤ c0) (h : laws_FnLoopErrors.f k l0 = some r) (hT0 : r = true) :
    Calls Try.prog 4 #[.slice A0 l0.length c0] w fun e w' => e = .returned (.bool r) ∧ Below w.heap.size w w' := by
  have hT := Aside0.mk hT0
  clear hT0
  have HR0 := Aside0.mk hr0
  have HC0 := Aside0.mk hc0
  clear hr0 hc0
  have HB := Aside0.mk (Below.refl w.heap.size w)
  have H : (if (l0.length : Int) > 1048576 then (some true) else ((spec_DrawLoopErrors.f k l0).bind fun bt540 => ((impl_LoopErrors.f k bt540.1 bt540.2).bind fun bt544 => ((spec_LoopErrors.f k bt540.1 bt540.2).bind fun bt548 => (if (bt544.2 != bt548.2) = true then (laws_FnLoopErrors.j0 k bt540.1 bt540.2 bt544.1 bt544.2 bt548.1 bt548.2 true) else ((laws_sameInts.f k bt544.1 bt548.1).bind fun t552 => (if t552 = true then (laws_FnLoopErrors.j0 k bt540.1 bt540.2 bt544.1 bt544.2 bt548.1 bt548.2 (!bt544.2)) else (laws_FnLoopErrors.j0 k bt540.1 bt540.2 bt544.1 bt544.2 bt548.1 bt548.2 true)))))))) = some r := h
  clear h
  by_cases c2 : (l0.length : Int) > 1048576
  · rw [if_pos c2] at H
    have c2b0 : decide (1048576 < (l0.length : Int)) = true := decide_eq_true c2
    have c2b1 : decide (1048576 < l0.length) = true := decide_eq_true (by omega)
    clear c2
    obtain rfl := Option.some.inj H
    go_enter Try.func4, Try.ntmps4
    go_wp2
    go_ret
    exact ⟨qq11, qq1⟩
  · rw [if_neg c2] at H
    have c2b0 : decide (1048576 < (l0.length : Int)) = false := decide_eq_false c2
    have c2b1 : decide (1048576 < l0.length) = false := decide_eq_false (by omega)
    clear c2
    replace H := Option.bind_eq_some_iff.mp H
    obtain ⟨⟨t540, t541⟩, A30, H⟩ := H
    replace H : ((impl_LoopErrors.f k t540 t541).bind fun bt544 => ((spec_LoopErrors.f k t540 t541).bind fun bt548 => (if (bt544.2 != bt548.2) = true then (laws_FnLoopErrors.j0 k t540 t541 bt544.1 bt544.2 bt548.1 bt548.2 true) else ((laws_sameInts.f k bt544.1 bt548.1).bind fun t552 => (if t552 = true then (laws_FnLoopErrors.j0 k t540 t541 bt544.1 bt544.2 bt548.1 bt548.2 (!bt544.2)) else (laws_FnLoopErrors.j0 k t540 t541 bt544.1 bt544.2 bt548.1 bt548.2 true)))))) = some r := H
    have A3 := Aside0.mk A30
    clear A30
    replace H := Option.bind_eq_some_iff.mp H
    obtain ⟨⟨t544, t545⟩, A40, H⟩ := H
    replace H : ((spec_LoopErrors.f k t540 t541).bind fun bt548 => (if (t545 != bt548.2) = true then (laws_FnLoopErrors.j0 k t540 t541 t544 t545 bt548.1 bt548.2 true) else ((laws_sameInts.f k t544 bt548.1).bind fun t552 => (if t552 = true then (laws_FnLoopErrors.j0 k t540 t541 t544 t545 bt548.1 bt548.2 (!t545)) else (laws_FnLoopErrors.j0 k t540 t541 t544 t545 bt548.1 bt548.2 true))))) = some r := H
    have A4 := Aside0.mk A40
    clear A40
    replace H := Option.bind_eq_some_iff.mp H
    obtain ⟨⟨t548, t549⟩, A50, H⟩ := H
    replace H : (if (t545 != t549) = true then (laws_FnLoopErrors.j0 k t540 t541 t544 t545 t548 t549 true) else ((laws_sameInts.f k t544 t548).bind fun t552 => (if t552 = true then (laws_FnLoopErrors.j0 k t540 t541 t544 t545 t548 t549 (!t545)) else (laws_FnLoopErrors.j0 k t540 t541 t544 t545 t548 t549 true)))) = some r := H
    have A5 := Aside0.mk A50
    clear A50
    have HC6 := Aside0.mk H
    clear H
    go_enter Try.func4, Try.ntmps4
    go_upto_region 6 with (first | ((with_reducible refine gate_callee (f := 14) rfl ?_); refine goesL_ (some 20) rfl rfl Try.func14 (by kernel_rfl) rfl #[.slice A0 l0.length c0] rfl qq5 ?_; (with_reducible refine (spec_DrawLoopErrors.calls k _ _ l0 t540 t541 _ ?side1 ?side2 A3.out).mono ?_); (case side1 => exact qq15 HR0.out); (case side2 => exact HC0.out); rintro e w7 ⟨v542, rfl, ho0, hb⟩; refine ⟨_, rfl, ?_⟩; have n0_ := Aside0.mk (Kd.R_lower ho0 (below_size qq1)); have n1_ := Aside0.mk (below_step qq1 hb); clear HB; have HO543 := n0_; have HB := n1_; clear n0_ n1_; (try clear hb); (try clear hb2); (try clear hk); (try clear hi); (try clear ho0); obtain ⟨Ao8, co8, eo8⟩ := Kd.R_slice HO543.out; subst eo8) | ((with_reducible refine gate_callee (f := 15) rfl ?_); refine goesL_ (some 26) rfl rfl Try.func15 (by kernel_rfl) rfl #[.int .i64 t540, .slice Ao8 t541.length co8] rfl qq5 ?_; (with_reducible refine (impl_LoopErrors.calls k t540 _ _ t541 t544 t545 _ ?side1 ?side2 A4.out).mono ?_); (case side1 => exact qq12 HO543.out); (case side2 => exact qq50 HO543.out); rintro e w9 ⟨v546, rfl, ho0, hb⟩; refine ⟨_, rfl, ?_⟩; have n0_ := Aside0.mk (Kd.R_below (qq2 HO543.out) hb); have n1_ := Aside0.mk (Kd.R_lower ho0 (below_size qq1)); have n2_ := Aside0.mk (below_step qq1 hb); clear HO543; clear HB; have HO543 := n0_; have HO547 := n1_; have HB := n2_; clear n0_ n1_ n2_; (try clear hb); (try clear hb2); (try clear hk); (try clear hi); (try clear ho0)) | ((with_reducible refine gate_callee (f := 16) rfl ?_); refine goesL_ (some 32) rfl rfl Try.func16 (by kernel_rfl) rfl #[.int .i64 t540, .slice Ao8 t541.length co8] rfl qq5 ?_; (with_reducible refine (spec_LoopErrors.calls k t540 _ _ t541 t548 t549 _ ?side1 ?side2 A5.out).mono ?_); (case side1 => exact qq12 HO543.out); (case side2 => exact qq50 HO543.out); rintro e w10 ⟨v550, rfl, ho0, hb⟩; refine ⟨_, rfl, ?_⟩; have n0_ := Aside0.mk (Kd.R_below (qq2 HO543.out) hb); have n1_ := Aside0.mk (Kd.R_elder' (qq2 HO547.out) (Kd.R_base ho0) hb); have n2_ := Aside0.mk (Kd.R_lower (Kd.R_new' ho0 (Kd.R_lt (qq2 HO547.out))) (below_size qq1)); have n3_ := Aside0.mk (below_step qq1 hb); clear HO543; clear HO547; clear HB; have HO543 := n0_; have HO547 := n1_; have HO551 := n2_; have HB := n3_; clear n0_ n1_ n2_ n3_; (try clear hb); (try clear hb2); (try clear hk); (try clear hi); (try clear ho0)))
    (try simp only [Act.put, List.setIfInBounds_toArray, List.set_cons_zero, List.set_cons_succ])
    go_cut [47] (fun v47 wc => ∃ (kq : Nat) (x47_5 : Bool), v47 = .bool x47_5 ∧ Aside0 (laws_FnLoopErrors.j0 kq t540 t541 t544 t545 t548 t549 x47_5 = some r) ∧ Aside0 (kq ≤ k) ∧ Aside0 (Kd.R k32 32 wc w.heap.size (fun _ => True) (.slice Ao8 t541.length co8) t541) ∧ Aside0 (Kd.R (Kd.int .i64) 3 wc w.heap.size (fun k_ => some k_ ≠ (v550 : Value).ownBlock) v546 t544) ∧ Aside0 (Kd.R (Kd.int .i64) 3 wc w.heap.size (fun k_ => some k_ ≠ (v546 : Value).ownBlock) v550 t548) ∧ Aside0 (Below w.heap.size w wc))
    case first =>
      have H := HC6.out
      clear HC6
      by_cases c11 : (t545 != t549) = true
      · rw [if_pos c11] at H
        have c11b0 : (t545 != t549) = true := c11
        (try (have c11b1 : decide (t545 = t549) = false := by simpa using c11))
        (try (have c11b2 : (t545 == t549) = false := by simpa using c11))
        (try (have c11b3 : ¬ (t545 = t549) := by simpa using c11))
        clear c11
        (first | rw [c11b0] | (simp only [i64_w, i32_w]; rw [c11b0]) | skip)
        have H' := Aside0.mk H
        clear H
        go_wp2
        go_meet
        case rel => exact ⟨_, (true), qq13, H', ⟨qq37⟩, ⟨qq2 HO543.out⟩, ⟨qq21 HO547.out⟩, ⟨qq21 HO551.out⟩, ⟨qq1⟩⟩
      · rw [if_neg c11] at H
        have c11b0 : (t545 != t549) = false := by simpa using c11
        (try (have c11b1 : decide (t545 = t549) = true := by simpa using c11))
        (try (have c11b2 : (t545 == t549) = true := by simpa using c11))
        clear c11
        (first | rw [c11b0] | (simp only [i64_w, i32_w]; rw [c11b0]) | skip)
        replace H := Option.bind_eq_some_iff.mp H
        obtain ⟨t552, A120, H⟩ := H
        replace H : (if t552 = true then (laws_FnLoopErrors.j0 k t540 t541 t544 t545 t548 t549 (!t545)) else (laws_FnLoopErrors.j0 k t540 t541 t544 t545 t548 t549 true)) = some r := H
        have A12 := Aside0.mk A120
        clear A120
        by_cases c13 : t552 = true
        · subst c13
          have H1 : (laws_FnLoopErrors.j0 k t540 t541 t544 t545 t548 t549 (!t545)) = some r := by rw [if_pos rfl] at H; exact H
          clear H
          have H := H1
          clear H1
          have H' := Aside0.mk H
          clear H
          obtain ⟨Ao14, co14, eo14⟩ := Kd.R_slice HO547.out
          subst eo14
          obtain ⟨Ao15, co15, eo15⟩ := Kd.R_slice HO551.out
          subst eo15
          go_wp2_with (first | (go_at_call 17; (with_reducible refine (laws_sameInts.calls k _ _ t544 _ _ t548 true _ ?side1 ?side2 ?side3 ?side4 A12.out).mono ?_); (case side1 => exact qq12 HO547.out); (case side2 => exact qq50 HO547.out); (case side3 => exact qq12 HO551.out); (case side4 => exact qq50 HO551.out); rintro e w' ⟨rfl, ⟨nd, rfl⟩⟩))
          go_meet
          case rel => exact ⟨_, (!t545), qq13, H', ⟨qq37⟩, ⟨qq2 HO543.out⟩, ⟨qq21 HO547.out⟩, ⟨qq21 HO551.out⟩, ⟨qq1⟩⟩
        · replace c13 := Bool.eq_false_iff.mpr c13
          subst c13
          have H1 : (laws_FnLoopErrors.j0 k t540 t541 t544 t545 t548 t549 true) = some r := by rw [if_neg (show ¬ (false = true) by decide)] at H; exact H
          clear H
          have H := H1
          clear H1
          have H' := Aside0.mk H
          clear H
          obtain ⟨Ao16, co16, eo16⟩ := Kd.R_slice HO547.out
          subst eo16
          obtain ⟨Ao17, co17, eo17⟩ := Kd.R_slice HO551.out
          subst eo17
          go_wp2_with (first | (go_at_call 17; (with_reducible refine (laws_sameInts.calls k _ _ t544 _ _ t548 false _ ?side1 ?side2 ?side3 ?side4 A12.out).mono ?_); (case side1 => exact qq12 HO547.out); (case side2 => exact qq50 HO547.out); (case side3 => exact qq12 HO551.out); (case side4 => exact qq50 HO551.out); rintro e w' ⟨rfl, ⟨nd, rfl⟩⟩))
          go_meet
          case rel => exact ⟨_, (true), qq13, H', ⟨qq37⟩, ⟨qq2 HO543.out⟩, ⟨qq21 HO547.out⟩, ⟨qq21 HO551.out⟩, ⟨qq1⟩⟩
    case rest =>
      clear HC6
      try clear c1
      try clear c2
      try clear c2b0
      try clear c2b1
      try clear p2
      try clear c4
      try clear c11
      try clear c11b0
      try clear c11b1
      try clear c11b2
      try clear c13
      try clear c14
      try clear c15
      try clear c16
      obtain ⟨kq, x47_5, rfl, HA, HJ5, HO_4, HO_5, HO_7, HB⟩ := hcut
      cases kq with
      | zero => exact absurd HA.out (by simp [laws_FnLoopErrors.j0])
      | succ kj5 =>
        have H := HA.out
        clear HA
        simp only [laws_FnLoopErrors.j0] at H
        by_cases c18 : x47_5 = true
        · subst c18
          have H1 : (if (t545 == t549) = true then ((laws_sameInts.f kj5 t544 t548).bind fun t553 => (some t553)) else (some false)) = some r := by rw [if_pos rfl] at H; exact H
          clear H
          have H := H1
          clear H1
          by_cases c19 : (t545 == t549) = true
          · rw [if_pos c19] at H
            have c19b0 : (t545 == t549) = true := c19
            (try (have c19b1 : decide (t545 = t549) = true := by simpa using c19))
            (try (have c19b2 : (t545 == t549) = true := by simpa using c19))
            clear c19
            replace H := Option.bind_eq_some_iff.mp H
            obtain ⟨t553, A200, H⟩ := H
            replace H : (some t553) = some r := H
            have A20 := Aside0.mk A200
            clear A200
            obtain rfl := Option.some.inj H
            obtain ⟨Ao21, co21, eo21⟩ := Kd.R_slice HO_5.out
            subst eo21
            obtain ⟨Ao22, co22, eo22⟩ := Kd.R_slice HO_7.out
            subst eo22
            go_wp2_with (first | (go_at_call 17; (with_reducible refine (laws_sameInts.calls kj5 _ _ t544 _ _ t548 t553 _ ?side1 ?side2 ?side3 ?side4 A20.out).mono ?_); (case side1 => exact qq12 HO_5.out); (case side2 => exact qq50 HO_5.out); (case side3 => exact qq12 HO_7.out); (case side4 => exact qq50 HO_7.out); rintro e w' ⟨rfl, ⟨nd, rfl⟩⟩))
            go_ret
            exact ⟨qq11, qq1⟩
          · rw [if_neg c19] at H
            have c19b0 : (t545 == t549) = false := by simpa using c19
            (try (have c19b1 : decide (t545 = t549) = false := by simpa using c19))
            (try (have c19b2 : (t545 == t549) = false := by simpa using c19))
            (try (have c19b3 : ¬ (t545 = t549) := by simpa using c19))
            clear c19
            exact absurd ((Option.some.inj H).trans hT.out) (by decide)
        · replace c18 := Bool.eq_false_iff.mpr c18
          subst c18
          have H1 : ((impl_TreeFirst.f kj5 t540 t541).bind fun bt554 => ((impl_TreeHeights.f kj5 t540 t541 bt554.1).bind fun bt558 => (laws_FnLoopErrors.l0 kj5 t540 t541 t544 bt554.2 bt558.1 bt558.2 true 0))) = some r := by rw [if_neg (show ¬ (false = true) by decide)] at H; exact H
          clear H
          have H := H1
          clear H1
          replace H := Option.bind_eq_some_iff.mp H
          obtain ⟨⟨t554, t555⟩, A230, H⟩ := H
          replace H : ((impl_TreeHeights.f kj5 t540 t541 t554).bind fun bt558 => (laws_FnLoopErrors.l0 kj5 t540 t541 t544 t555 bt558.1 bt558.2 true 0)) = some r := H
          have A23 := Aside0.mk A230
          clear A230
          replace H := Option.bind_eq_some_iff.mp H
          obtain ⟨⟨t558, t559⟩, A240, H⟩ := H
          replace H : (laws_FnLoopErrors.l0 kj5 t540 t541 t544 t555 t558 t559 true 0) = some r := H
          have A24 := Aside0.mk A240
          clear A240
          have H' := Aside0.mk H
          clear H
          go_wp2_with (first | ((with_reducible refine gate_callee (f := 10) rfl ?_); refine goesL_ (some 59) rfl rfl Try.func10 (by kernel_rfl) rfl #[.int .i64 t540, .slice Ao8 t541.length co8] rfl qq5 ?_; (with_reducible refine (impl_TreeFirst.calls kj5 t540 _ _ t541 t554 t555 _ ?side1 ?side2 A23.out).mono ?_); (case side1 => exact qq12 HO_4.out); (case side2 => exact qq50 HO_4.out); rintro e w25 ⟨v556, rfl, ho0, hb⟩; refine ⟨_, rfl, ?_⟩; have n0_ := Aside0.mk (Kd.R_below (qq2 HO_4.out) hb); have n1_ := Aside0.mk (Kd.R_elder' (qq2 HO_5.out) (Kd.R_base ho0) hb); have n2_ := Aside0.mk (Kd.R_elder' (qq2 HO_7.out) (Kd.R_base ho0) hb); have n3_ := Aside0.mk (Kd.R_lower (Kd.R_new' (Kd.R_new' ho0 (Kd.R_lt (qq2 HO_5.out))) (Kd.R_lt (qq2 HO_7.out))) (below_size qq1)); have n4_ := Aside0.mk (below_step qq1 hb); clear HO_4; clear HO_5; clear HO_7; clear HB; have HO_4 := n0_; have HO_5 := n1_; have HO_7 := n2_; have HO557 := n3_; have HB := n4_; clear n0_ n1_ n2_ n3_ n4_; (try clear hb); (try clear hb2); (try clear hk); (try clear hi); (try clear ho0); obtain ⟨Ao26, co26, eo26⟩ := Kd.R_slice HO557.out; subst eo26) | ((with_reducible refine gate_callee (f := 11) rfl ?_); refine goesL_ (some 66) rfl rfl Try.func11 (by kernel_rfl) rfl #[.int .i64 t540, .slice Ao8 t541.length co8, .slice Ao26 t554.length co26] rfl qq5 ?_; (with_reducible refine (impl_TreeHeights.calls kj5 t540 _ _ t541 _ _ t554 t558 t559 _ ?side1 ?side2 ?side3 ?side4 A24.out).mono ?_); (case side1 => exact qq12 HO_4.out); (case side2 => exact qq50 HO_4.out); (case side3 => exact qq12 HO557.out); (case side4 => exact qq50 HO557.out); rintro e w27 ⟨v560, rfl, ho0, hb⟩; refine ⟨_, rfl, ?_⟩; have n0_ := Aside0.mk (Kd.R_below (qq2 HO_4.out) hb); have n1_ := Aside0.mk (Kd.R_elder' (qq2 HO_5.out) (Kd.R_base ho0) hb); have n2_ := Aside0.mk (Kd.R_elder' (qq2 HO_7.out) (Kd.R_base ho0) hb); have n3_ := Aside0.mk (Kd.R_elder' (qq2 HO557.out) (Kd.R_base ho0) hb); have n4_ := Aside0.mk (Kd.R_lower (Kd.R_new' (Kd.R_new' (Kd.R_new' ho0 (Kd.R_lt (qq2 HO_5.out))) (Kd.R_lt (qq2 HO_7.out))) (Kd.R_lt (qq2 HO557.out))) (below_size qq1)); have n5_ := Aside0.mk (below_step qq1 hb); clear HO_4; clear HO_5; clear HO_7; clear HO557; clear HB; have HO_4 := n0_; have HO_5 := n1_; have HO_7 := n2_; have HO557 := n3_; have HO561 := n4_; have HB := n5_; clear n0_ n1_ n2_ n3_ n4_ n5_; (try clear hb); (try clear hb2); (try clear hk); (try clear hi); (try clear ho0)))
          go_loopg [13, 14] kj5 (fun kq v13 v14 w' => ∃ (x13_2 : Bool) (x14_2 : Int), v13 = .bool x13_2 ∧ v14 = .int .i64 x14_2 ∧ Aside0 (laws_FnLoopErrors.l0 kq t540 t541 t544 t555 t558 t559 x13_2 x14_2 = some r) ∧ Aside0 (kq ≤ kj5) ∧ Aside0 (Kd.R k32 32 w' w.heap.size (fun _ => True) (.slice Ao8 t541.length co8) t541) ∧ Aside0 (Kd.R (Kd.int .i64) 3 w' w.heap.size (fun k_ => some k_ ≠ (v560 : Value).ownBlock) v546 t544) ∧ Aside0 (Kd.R (Kd.int .i64) 3 w' w.heap.size (fun k_ => some k_ ≠ (v546 : Value).ownBlock) v560 t558) ∧ Aside0 (Below w.heap.size w w'))
          case atStart => exact ⟨(true), (0), qq13, qq13, H', ⟨Nat.le_refl _⟩, ⟨qq2 HO_4.out⟩, ⟨qq21 HO_5.out⟩, ⟨by (with_reducible repeat (first | apply Kd.R_alloc | apply Kd.R_drewN | apply Kd.R_drew)); exact Kd.R_mono HO561.out (fun _ hk => hk.1.1.2)⟩, ⟨qq1⟩⟩
          case round =>
            clear H'
            try clear c1
            try clear c2
            try clear c2b0
            try clear c2b1
            try clear p2
            try clear c4
            try clear c10
            try clear c11
            try clear c11b0
            try clear c11b1
            try clear c11b2
            try clear c13
            try clear c14
            try clear c15
            try clear c16
            try clear c18
            try clear c19
            try clear c19b0
            try clear c19b1
            try clear c19b2
            try clear p2
            obtain ⟨x13_2, x14_2, rfl, rfl, HA, HK2, HO_4, HO_5, HO_11, HB⟩ := hrel
            cases gk with
            | zero => exact absurd HA.out (by simp [laws_FnLoopErrors.l0])
            | succ k2 =>
              have H := HA.out
              clear HA
              simp only [laws_FnLoopErrors.l0] at H
              by_cases c28 : x14_2 < (t544.length : Int)
              · rw [if_pos c28] at H
                have c28b0 : decide (x14_2 < (t544.length : Int)) = true := decide_eq_true c28
                clear c28
                by_cases c29 : x13_2 = true
                · subst c29
                  have H1 : (if 0 ≤ x14_2 then (laws_FnLoopErrors.l0 k2 t540 t541 t544 t555 t558 t559 ((rd t544 x14_2) == 0) (wrap64 (x14_2 + 1))) else (none)) = some r := by rw [if_pos rfl] at H; exact H
                  clear H
                  have H := H1
                  clear H1
                  by_cases c30 : 0 ≤ x14_2
                  · rw [if_pos c30] at H
                    have c30b0 : decide (0 ≤ x14_2) = true := decide_eq_true c30
                    clear c30
                    have H' := Aside0.mk H
                    clear H
                    obtain ⟨Ao31, co31, eo31⟩ := Kd.R_slice HO_5.out
                    subst eo31
                    have p562 : 0 ≤ (x14_2 : Int) := of_decide_eq_true qq3
                    have q562 : x14_2 < (t544.length : Int) := of_decide_eq_true qq3
                    obtain ⟨ad562, e562, hx562_0⟩ := Kd.at_int (Kd.R_reads' HO_5.out).2.2 x14_2 p562 q562
                    cases e562
                    replace p562 := eq_true p562
                    replace q562 := eq_true q562
                    go_wp2
                    go_roundg k2
                    case measure => have := HJ5.out; have := HK2.out; omega
                    case rel => exact ⟨(((rd t544 x14_2) == 0)), (wrap64 (x14_2 + 1)), qq13, qq13, H', ⟨qq76 HJ5.out HK2.out⟩, ⟨qq2 HO_4.out⟩, ⟨qq2 HO_5.out⟩, ⟨qq2 HO_11.out⟩, ⟨qq1⟩⟩
                  · rw [if_neg c30] at H
                    exact absurd H (by simp)
                · replace c29 := Bool.eq_false_iff.mpr c29
                  subst c29
                  have H1 : (laws_FnLoopErrors.l0 k2 t540 t541 t544 t555 t558 t559 false (wrap64 (x14_2 + 1))) = some r := by rw [if_neg (show ¬ (false = true) by decide)] at H; exact H
                  clear H
                  have H := H1
                  clear H1
                  have H' := Aside0.mk H
                  clear H
                  obtain ⟨Ao32, co32, eo32⟩ := Kd.R_slice HO_5.out
                  subst eo32
                  go_wp2
                  go_roundg k2
                  case measure => have := HJ5.out; have := HK2.out; omega
                  case rel => exact ⟨(false), (wrap64 (x14_2 + 1)), qq13, qq13, H', ⟨qq76 HJ5.out HK2.out⟩, ⟨qq2 HO_4.out⟩, ⟨qq2 HO_5.out⟩, ⟨qq2 HO_11.out⟩, ⟨qq1⟩⟩
              · rw [if_neg c28] at H
                have c28b0 : decide (x14_2 < (t544.length : Int)) = false := decide_eq_false c28
                clear c28
                by_cases c33 : t555 = true
                · subst c33
                  have H1 : (if t559 = true then ((impl_NetLoops.f k2 t540 t541).bind fun t563 => (if (t544.length : Int) = t563 then ((impl_LoopCloses.f k2 t540 t541).bind fun t564 => (if (t564 == x13_2) = true then ((impl_NetFits.f k2 t540 t541 t558).bind fun t565 => (some (t565 == x13_2))) else (some false))) else (some false))) else (some false)) = some r := by rw [if_pos rfl] at H; exact H
                  clear H
                  have H := H1
                  clear H1
                  by_cases c34 : t559 = true
                  · subst c34
                    have H1 : ((impl_NetLoops.f k2 t540 t541).bind fun t563 => (if (t544.length : Int) = t563 then ((impl_LoopCloses.f k2 t540 t541).bind fun t564 => (if (t564 == x13_2) = true then ((impl_NetFits.f k2 t540 t541 t558).bind fun t565 => (some (t565 == x13_2))) else (some false))) else (some false))) = some r := by rw [if_pos rfl] at H; exact H
                    clear H
                    have H := H1
                    clear H1
                    replace H := Option.bind_eq_some_iff.mp H
                    obtain ⟨t563, A350, H⟩ := H
                    replace H : (if (t544.length : Int) = t563 then ((impl_LoopCloses.f k2 t540 t541).bind fun t564 => (if (t564 == x13_2) = true then ((impl_NetFits.f k2 t540 t541 t558).bind fun t565 => (some (t565 == x13_2))) else (some false))) else (some false)) = some r := H
                    have A35 := Aside0.mk A350
                    clear A350
                    by_cases c36 : (t544.length : Int) = t563
                    · rw [if_pos c36] at H
                      have c36b0 : ((t544.length : Int) == t563) = true := beq_iff_eq.mpr c36
                      have c36b1 : ((t544.length : Int) != t563) = false := bne_eq_false_iff_eq.mpr c36
                      clear c36
                      replace H := Option.bind_eq_some_iff.mp H
                      obtain ⟨t564, A370, H⟩ := H
                      replace H : (if (t564 == x13_2) = true then ((impl_NetFits.f k2 t540 t541 t558).bind fun t565 => (some (t565 == x13_2))) else (some false)) = some r := H
                      have A37 := Aside0.mk A370
                      clear A370
                      by_cases c38 : (t564 == x13_2) = true
                      · rw [if_pos c38] at H
                        have c38b0 : (t564 == x13_2) = true := c38
                        (try (have c38b1 : decide (t564 = x13_2) = true := by simpa using c38))
                        (try (have c38b2 : (t564 == x13_2) = true := by simpa using c38))
                        clear c38
                        replace H := Option.bind_eq_some_iff.mp H
                        obtain ⟨t565, A390, H⟩ := H
                        replace H : (some (t565 == x13_2)) = some r := H
                        have A39 := Aside0.mk A390
                        clear A390
                        obtain rfl := Option.some.inj H
                        obtain ⟨Ao40, co40, eo40⟩ := Kd.R_slice HO_5.out
                        subst eo40
                        go_wp2_with (first | (go_at_call 18; (with_reducible refine (impl_NetLoops.calls k2 t540 _ _ t541 t563 _ ?side1 ?side2 A35.out).mono ?_); (case side1 => exact qq12 HO_4.out); (case side2 => exact qq50 HO_4.out); rintro e w41 ⟨rfl, hb⟩; have n0_ := Aside0.mk (Kd.R_below (qq2 HO_4.out) hb); have n1_ := Aside0.mk (Kd.R_below (qq2 HO_5.out) hb); have n2_ := Aside0.mk (Kd.R_below (qq2 HO_11.out) hb); have n3_ := Aside0.mk (below_step qq1 hb); clear HO_4; clear HO_5; clear HO_11; clear HB; have HO_4 := n0_; have HO_5 := n1_; have HO_11 := n2_; have HB := n3_; clear n0_ n1_ n2_ n3_; (try clear hb); (try clear hb2); (try clear hk); (try clear hi)) | (go_at_call 8; (with_reducible refine (impl_LoopCloses.calls k2 t540 _ _ t541 t564 _ ?side1 ?side2 A37.out).mono ?_); (case side1 => exact qq12 HO_4.out); (case side2 => exact qq50 HO_4.out); rintro e w42 ⟨rfl, hb⟩; have n0_ := Aside0.mk (Kd.R_below (qq2 HO_4.out) hb); have n1_ := Aside0.mk (Kd.R_below (qq2 HO_5.out) hb); have n2_ := Aside0.mk (Kd.R_below (qq2 HO_11.out) hb); have n3_ := Aside0.mk (below_step qq1 hb); clear HO_4; clear HO_5; clear HO_11; clear HB; have HO_4 := n0_; have HO_5 := n1_; have HO_11 := n2_; have HB := n3_; clear n0_ n1_ n2_ n3_; (try clear hb); (try clear hb2); (try clear hk); (try clear hi); obtain ⟨Ao43, co43, eo43⟩ := Kd.R_slice HO_11.out; subst eo43) | (go_at_call 12; (with_reducible refine (impl_NetFits.calls k2 t540 _ _ t541 _ _ t558 t565 _ ?side1 ?side2 ?side3 ?side4 A39.out).mono ?_); (case side1 => exact qq12 HO_4.out); (case side2 => exact qq50 HO_4.out); (case side3 => exact qq12 HO_11.out); (case side4 => exact qq50 HO_11.out); rintro e w44 ⟨rfl, hb⟩; have n0_ := Aside0.mk (Kd.R_below (qq2 HO_4.out) hb); have n1_ := Aside0.mk (Kd.R_below (qq2 HO_5.out) hb); have n2_ := Aside0.mk (Kd.R_below (qq2 HO_11.out) hb); have n3_ := Aside0.mk (below_step qq1 hb); clear HO_4; clear HO_5; clear HO_11; clear HB; have HO_4 := n0_; have HO_5 := n1_; have HO_11 := n2_; have HB := n3_; clear n0_ n1_ n2_ n3_; (try clear hb); (try clear hb2); (try clear hk); (try clear hi)))
                        go_ret
                        exact ⟨qq11, qq1⟩
                      · rw [if_neg c38] at H
                        have c38b0 : (t564 == x13_2) = false := by simpa using c38
                        (try (have c38b1 : decide (t564 = x13_2) = false := by simpa using c38))
                        (try (have c38b2 : (t564 == x13_2) = false := by simpa using c38))
                        (try (have c38b3 : ¬ (t564 = x13_2) := by simpa using c38))
                        clear c38
                        exact absurd ((Option.some.inj H).trans hT.out) (by decide)
                    · rw [if_neg c36] at H
                      have c36b0 : ((t544.length : Int) == t563) = false := beq_eq_false_iff_ne.mpr c36
                      have c36b1 : ((t544.length : Int) != t563) = true := bne_iff_ne.mpr c36
                      exact absurd ((Option.some.inj H).trans hT.out) (by decide)
                  · replace c34 := Bool.eq_false_iff.mpr c34
                    subst c34
                    have H1 : (some false) = some r := by rw [if_neg (show ¬ (false = true) by decide)] at H; exact H
                    clear H
                    have H := H1
                    clear H1
                    exact absurd ((Option.some.inj H).trans hT.out) (by decide)
                · replace c33 := Bool.eq_false_iff.mpr c33
                  subst c33
                  have H1 : (some false) = some r := by rw [if_neg (show ¬ (false = true) by decide)] at H; exact H
                  clear H
                  have H := H1
                  clear H1
                  exact absurd ((Option.some.inj H).trans hT.out) (by decide)

/-- THE ONE PURE STATEMENT of laws_FnLoopErrors: yours. -/
def laws_FnLoopErrors.Pure : Prop := ∀ (l0 : List Int), l0.length ≤ maxLen → l0.length * 1 ≤ 140737488351232 → (∀ x ∈ l0, (Lit.int .u8 x).wf = true) → ∃ k, laws_FnLoopErrors.f k l0 = some true
theorem laws_FnLoopErrors.walk (P : laws_FnLoopErrors.Pure) (a0 : Option Addr) (len0 cap0 : Nat) (z0 : List Int) (w : World) (w0 : (a0 = none ∧ len0 = 0 ∧ cap0 = 0 ∧ z0 = []) ∨ ∃ x, a0 = some x ∧ len0 ≤ cap0 ∧ cap0 ≤ maxLen ∧ z0.length = cap0 ∧ (∀ i, i < z0.length → w.cell? (x.add i) = some (.int .u8 (z0.getD i 0))) ∧ ∀ n ∈ z0, (Lit.int .u8 n).wf = true) (y0 : len0 * 1 ≤ 140737488351232) :
    Calls Try.prog 4 #[.slice a0 len0 cap0] w fun e w' => e = .returned (.bool true) ∧ Below w.heap.size w w' := by
  obtain ⟨l0, rfl, hr0, hm0, hw0, hc0⟩ := ReadsInt.ofRowC w0
  obtain ⟨k, h⟩ := P l0 hm0 y0 hw0
  refine (laws_FnLoopErrors.calls k _ _ l0 true w (Kd.C_of_reads (d := (0 : Int)) (h1 := fun _ => rfl) hr0) hc0 h rfl).mono ?_
  rintro e w' ⟨rfl, hd⟩
  exact ⟨rfl, hd⟩

end Go.Proofs.Ytmcfhmflncghiaa.Q
namespace Go.Proofs.Ytmcfhmflncghiaa.Pure
open Go.RowKit Go.Proofs.Ytmcfhmflncghiaa.Q Go.Proofs.YtmcfhmflncghiaaW.PrintWords Go.Proofs.YtmcfhmflncghiaaW.PrintLast Go.Proofs.YtmcfhmflncghiaaW.PrintMore
section
variable (pre suf : List Int) (y : Int)
theorem len_midI : (pre.length : Int) < ((pre ++ y :: suf).length : Int) := by simp; omega
theorem rd_midI : rd (pre ++ y :: suf) (pre.length : Int) = y := by simp [rd]
theorem app_midI : pre ++ y :: suf = (pre ++ [y]) ++ suf := by simp
theorem next_midI (h : pre.length < 4611686018427387904) : wrap64 ((pre.length : Int) + 1) = ((pre ++ [y]).length : Int) := by
  unfold wrap64; simp; omega
end
def hIn (h : List Int) : Prop := ∀ x ∈ h, -1000000 ≤ x ∧ x ≤ 1000000
instance (h : List Int) : Decidable (hIn h) := by unfold hIn; infer_instance
theorem nheights_l0 (suf : List Int) : ∀ (pre : List Int) (k : Nat), suf.length < k → pre.length + suf.length < 4611686018427387904 →
    impl_heightsValid.l0 k (pre ++ suf) ((pre ++ suf).length : Int) (pre.length : Int) = some (decide (hIn suf)) := by
  induction suf with
  | nil =>
    intro pre k hk _
    obtain ⟨k, rfl⟩ : ∃ m, k = m + 1 := ⟨k - 1, by omega⟩
    simp [impl_heightsValid.l0, hIn]
  | cons y suf ih =>
    intro pre k hk hl
    simp only [List.length_cons] at hk hl
    obtain ⟨k, rfl⟩ : ∃ m, k = m + 1 := ⟨k - 1, by omega⟩
    simp only [impl_heightsValid.l0]
    rw [if_pos (len_midI _ _ _), if_pos (by omega), if_pos (len_midI _ _ _), rd_midI, nwithin_eq _ _ (by omega) (by omega)]
    simp only [Option.bind_some]
    by_cases hy : -1000000 ≤ y ∧ y ≤ 1000000
    · rw [if_pos (by simpa using hy), next_midI pre y (by omega), app_midI pre suf y, ih (pre ++ [y]) k (by omega) (by simp; omega)]
      congr 1; rw [decide_eq_decide]; unfold hIn; simp [hy]
    · rw [if_neg (by simpa using hy)]; congr 1; symm; rw [decide_eq_false_iff_not]; exact fun q => hy (q y List.mem_cons_self)
/-- Heights fit runs. -/
def pot (h : Int → Int) (l : List Run) : Prop := ∀ r ∈ l, h r.f1 - h r.f0 = r.f2
theorem nfits_l0 {n : Int} {h : List Int} (hn : (h.length : Int) = n) (hb : hIn h) (suf : List Run) : ∀ (pre : List Run) (k : Nat), suf.length < k → pre.length + suf.length < 100 → VL n suf →
    (impl_NetFits.l0 k h (pre ++ suf) ((pre ++ suf).length : Int) (pre.length : Int) = some true ↔ pot (rd h) suf) ∧ ∃ b, impl_NetFits.l0 k h (pre ++ suf) ((pre ++ suf).length : Int) (pre.length : Int) = some b := by
  induction suf with
  | nil =>
    intro pre k hk _ _
    obtain ⟨k, rfl⟩ : ∃ m, k = m + 1 := ⟨k - 1, by omega⟩
    simp [impl_NetFits.l0, pot]
  | cons y suf ih =>
    intro pre k hk hl hv
    simp only [List.length_cons] at hk hl
    obtain ⟨k, rfl⟩ : ∃ m, k = m + 1 := ⟨k - 1, by omega⟩
    have hy := hv y List.mem_cons_self
    have bd : ∀ v : Int, 0 ≤ v → v < n → -1000000 ≤ rd h v ∧ rd h v ≤ 1000000 := fun v v0 v1 => by
      obtain ⟨i, rfl⟩ : ∃ i : Nat, v = i := ⟨v.toNat, by omega⟩
      rw [rd_eq h i (by omega)]
      exact hb _ (List.getElem_mem _)
    have b1 := bd y.f1 hy.2.2.1 hy.2.2.2
    have b0 := bd y.f0 hy.1 hy.2.1
    have hi := ih (pre ++ [y]) k (by omega) (by simp; omega) (fun r hr => hv r (List.mem_cons_of_mem _ hr))
    rw [impl_NetFits.l0, if_pos (len_midR _ _ _), if_pos (by omega), if_pos (len_midR _ _ _), rd_midR, if_pos hy.2.2.1, if_pos (by omega), if_pos hy.1, if_pos (by omega), nw64 (x := rd h y.f1 - rd h y.f0) (by omega) (by omega), next_midR pre y (by omega), app_midR pre suf y]
    by_cases c : rd h y.f1 - rd h y.f0 = y.f2
    · rw [if_pos c]
      refine ⟨hi.1.trans ⟨fun q r hr => ?_, fun q r hr => q r (List.mem_cons_of_mem _ hr)⟩, hi.2⟩
      rcases List.mem_cons.1 hr with e | e
      · rw [e]; exact c
      · exact q r e
    · rw [if_neg c]
      exact ⟨⟨fun q => by simp at q, fun q => absurd (q y List.mem_cons_self) c⟩, _, rfl⟩
theorem NetFits_true (k : Nat) (n : Int) (l : List Run) (h : List Int) (hk : 50 < k) (hv : nvB n l = true) (hn : (h.length : Int) = n) (hb : hIn h) : (impl_NetFits.f k n l h = some true ↔ pot (rd h) l) ∧ ∃ b, impl_NetFits.f k n l h = some b := by
  have hnn := nvB_n hv
  obtain ⟨k, rfl⟩ : ∃ m, k = m + 1 := ⟨k - 1, by omega⟩
  have e1 : impl_heightsValid.f (k + 1) n h = some true := by
    unfold impl_heightsValid.f
    rw [if_pos hn]
    have := nheights_l0 h [] (k + 1) (by omega) (by simp; omega)
    simp only [List.nil_append, List.length_nil] at this
    rw [show ((0 : Nat) : Int) = 0 from rfl] at this
    rw [this, decide_eq_true hb]
  have e2 := nfits_l0 hn hb l [] k (by omega) (by simp; omega) (nvB_VL hv)
  simp only [List.nil_append, List.length_nil] at e2
  rw [show ((0 : Nat) : Int) = 0 from rfl] at e2
  unfold impl_NetFits.f
  rw [impl_NetValid_eq (k + 1) n l (by omega), hv]
  simp only [Option.bind_some]
  rw [if_pos trivial, e1]
  simp only [Option.bind_some, Bool.not_true]
  rw [impl_NetFits.j0, if_neg (by simp)]
  exact e2
/-- A net is whole. -/
def wholeB (n : Int) (l : List Run) : Bool := nvB n l && (leastR n l).all (fun x => decide (x = 0))
theorem nwhole_l0 (suf : List Int) : ∀ (pre : List Int) (k : Nat), suf.length < k → pre.length + suf.length < 100 → impl_NetWhole.l0 k (pre ++ suf) ((pre ++ suf).length : Int) (pre.length : Int) = some (suf.all (fun x => decide (x = 0))) := by
  induction suf with
  | nil =>
    intro pre k hk _
    obtain ⟨k, rfl⟩ : ∃ m, k = m + 1 := ⟨k - 1, by omega⟩
    simp [impl_NetWhole.l0]
  | cons y suf ih =>
    intro pre k hk hl
    simp only [List.length_cons] at hk hl
    obtain ⟨k, rfl⟩ : ∃ m, k = m + 1 := ⟨k - 1, by omega⟩
    rw [impl_NetWhole.l0, if_pos (len_midI _ _ _), if_pos (by omega), if_pos (len_midI _ _ _), rd_midI]
    by_cases c : y = 0
    · rw [if_pos c, next_midI pre y (by omega), app_midI pre suf y, ih (pre ++ [y]) k (by omega) (by simp; omega)]
      simp [c]
    · rw [if_neg c]; simp [c]
theorem NetWhole_eq (k : Nat) (n : Int) (l : List Run) (hk : 50 < k) : impl_NetWhole.f k n l = some (wholeB n l) := by
  unfold impl_NetWhole.f wholeB
  rw [impl_NetValid_eq k n l (by omega)]
  simp only [Option.bind_some]
  by_cases hv : nvB n l = true
  · have hnn := nvB_n hv
    have hL := (leastR_lst (by omega) l (nvB_VL hv)).len
    have e : impl_leastLinked.f n l = some (leastR n l) := by unfold impl_leastLinked.f; rw [if_pos hv]
    have e2 := nwhole_l0 (leastR n l) [] k (by omega) (by simp; omega)
    simp only [List.nil_append, List.length_nil] at e2
    rw [show ((0 : Nat) : Int) = 0 from rfl] at e2
    rw [if_pos hv, e]
    simp only [Option.bind_some]
    rw [e2, hv, Bool.true_and]
  · rw [if_neg hv, Bool.eq_false_iff.2 hv, Bool.false_and]
theorem wholeB_iff {n : Int} {l : List Run} : wholeB n l = true ↔ nvB n l = true ∧ ∀ v, 0 ≤ v → v < n → Lk l 0 v := by
  unfold wholeB
  rw [Bool.and_eq_true]
  refine and_congr_right fun hv => ?_
  have hnn := nvB_n hv
  have L := leastR_lst (by omega) l (nvB_VL hv)
  have hl := L.len
  have e0 : rd (leastR n l) 0 = 0 := by have := L.le 0 (by omega) (by omega); have := L.nn 0 (by omega) (by omega); omega
  rw [List.all_eq_true]
  constructor
  · intro h v v0 v1
    rw [lk_iff L ⟨by omega, by omega⟩ ⟨v0, v1⟩, e0]
    obtain ⟨i, rfl⟩ : ∃ i : Nat, v = i := ⟨v.toNat, by omega⟩
    rw [rd_eq _ i (by omega)]
    exact (of_decide_eq_true (h _ (List.getElem_mem _))).symm
  · intro h x hx
    obtain ⟨i, hi, rfl⟩ := List.getElem_of_mem hx
    have := (lk_iff L ⟨by omega, by omega⟩ ⟨show (0 : Int) ≤ (i : Int) by omega, by omega⟩).1 (h i (by omega) (by omega))
    rw [e0, rd_eq _ i hi] at this
    exact decide_eq_true this.symm
end Go.Proofs.Ytmcfhmflncghiaa.Pure
namespace Go.Proofs.Ytmcfhmflncghiaa.Pure
open Go.RowKit Go.Proofs.Ytmcfhmflncghiaa.Q Go.Proofs.YtmcfhmflncghiaaW.PrintWords Go.Proofs.YtmcfhmflncghiaaW.PrintLast Go.Proofs.YtmcfhmflncghiaaW.PrintMore
abbrev rdT (l : List Run) (i : Int) : Run := rd_T32 l i
/-! trees -/
def pk (l : List Run) (t : List Int) : List Run := t.map (rdT l)
def ftStep (n : Int) (l : List Run) (t : List Int) (k : Nat) : List Int :=
  if rd (leastR n (pk l t)) (rdT l k).f0 = rd (leastR n (pk l t)) (rdT l k).f1 then t else t ++ [(k : Int)]
def ftree (n : Int) (l : List Run) : Nat → List Int
  | 0 => []
  | k + 1 => ftStep n l (ftree n l k) k
theorem rdT_mem {l : List Run} {k : Nat} (h : k < l.length) : rdT l k ∈ l := by
  unfold rdT rd_T32; simp [h]
theorem rdT_get {l : List Run} {k : Nat} (h : k < l.length) : rdT l k = l[k] := by
  unfold rdT rd_T32; simp [h]
theorem ft_lt (n : Int) (l : List Run) : ∀ m, ∀ k ∈ ftree n l m, 0 ≤ k ∧ k < m
  | 0, k, h => by simp [ftree] at h
  | m + 1, k, h => by
    rw [ftree, ftStep] at h
    split at h
    · have := ft_lt n l m k h; omega
    · rcases List.mem_append.1 h with q | q
      · have := ft_lt n l m k q; omega
      · rw [List.mem_singleton.1 q]; omega
theorem ft_asc (n : Int) (l : List Run) : ∀ m, (ftree n l m).Pairwise (· < ·)
  | 0 => by simp [ftree]
  | m + 1 => by
    rw [ftree, ftStep]
    split
    · exact ft_asc n l m
    · rw [List.pairwise_append]
      exact ⟨ft_asc n l m, by simp, fun a ha b hb => by have := ft_lt n l m a ha; rw [List.mem_singleton.1 hb]; omega⟩
theorem pk_sub {l : List Run} {t : List Int} (h : ∀ k ∈ t, 0 ≤ k ∧ k < (l.length : Int)) : ∀ r ∈ pk l t, r ∈ l := by
  intro r hr
  obtain ⟨k, hk, rfl⟩ := List.mem_map.1 hr
  obtain ⟨i, rfl⟩ : ∃ i : Nat, k = i := ⟨k.toNat, by have := h k hk; omega⟩
  exact rdT_mem (by have := h i hk; omega)
theorem ft_sub {n : Int} {l : List Run} {m : Nat} (h : m ≤ l.length) : ∀ r ∈ pk l (ftree n l m), r ∈ l :=
  pk_sub fun k hk => by have := ft_lt n l m k hk; omega
theorem ft_VL {n : Int} {l : List Run} {m : Nat} (hv : VL n l) (h : m ≤ l.length) : VL n (pk l (ftree n l m)) := hv.sub (ft_sub h)
theorem pk_snoc (l : List Run) (t : List Int) (k : Int) : pk l (t ++ [k]) = pk l t ++ [rdT l k] := by simp [pk]
theorem take_snoc {l : List Run} {m : Nat} (h : m < l.length) : l.take (m + 1) = l.take m ++ [rdT l m] := by
  rw [List.take_add_one, List.getElem?_eq_getElem h, rdT_get h]; rfl
/-- The tree so far links what the runs so far link. -/
theorem ft_lk {n : Int} (hn : 0 ≤ n) {l : List Run} (hv : VL n l) : ∀ m, m ≤ l.length → ∀ a b, Lk (l.take m) a b → Lk (pk l (ftree n l m)) a b
  | 0, _, a, b, h => by
    rw [List.take_zero] at h
    exact h.mono (by simp)
  | m + 1, hm, a, b, h => by
    have hr := hv _ (rdT_mem (l := l) (k := m) (by omega))
    have ih := ft_lk hn hv m (by omega)
    have hV := ft_VL (m := m) hv (by omega)
    have L := leastR_lst hn _ hV
    rw [take_snoc (by omega)] at h
    rw [ftree, ftStep]
    split
    · next c =>
      have hl : Lk (pk l (ftree n l m)) (rdT l m).f0 (rdT l m).f1 := (lk_iff L ⟨hr.1, hr.2.1⟩ ⟨hr.2.2.1, hr.2.2.2⟩).2 c
      induction h with
      | refl => exact .refl _
      | fwd hm2 _ ih2 =>
        rcases List.mem_append.1 hm2 with q | q
        · exact ih2.trans (ih _ _ (Lk.run q))
        · rw [List.mem_singleton.1 q] at ih2 ⊢; exact ih2.trans hl
      | bwd hm2 _ ih2 =>
        rcases List.mem_append.1 hm2 with q | q
        · exact ih2.trans (ih _ _ (Lk.run q)).symm
        · rw [List.mem_singleton.1 q] at ih2 ⊢; exact ih2.trans hl.symm
    · rw [pk_snoc]
      induction h with
      | refl => exact .refl _
      | fwd hm2 _ ih2 =>
        rcases List.mem_append.1 hm2 with q | q
        · exact ih2.trans ((ih _ _ (Lk.run q)).mono fun r hr => List.mem_append_left _ hr)
        · exact .fwd (List.mem_append_right _ q) ih2
      | bwd hm2 _ ih2 =>
        rcases List.mem_append.1 hm2 with q | q
        · exact ih2.trans ((ih _ _ (Lk.run q)).mono fun r hr => List.mem_append_left _ hr).symm
        · exact .bwd (List.mem_append_right _ q) ih2
/-- A tree has heights. -/
theorem ft_pot {n : Int} (hn : 0 ≤ n) {l : List Run} (hv : VL n l) : ∀ m, m ≤ l.length → ∃ h : Int → Int, pot h (pk l (ftree n l m))
  | 0, _ => ⟨fun _ => 0, by simp [pot, pk, ftree]⟩
  | m + 1, hm => by
    obtain ⟨h, hh⟩ := ft_pot hn hv m (by omega)
    have hr := hv _ (rdT_mem (l := l) (k := m) (by omega))
    have hV := ft_VL (m := m) hv (by omega)
    have L := leastR_lst hn _ hV
    rw [ftree, ftStep]
    split
    · exact ⟨h, hh⟩
    · next c =>
      generalize hd : (rdT l m).f2 - (h (rdT l m).f1 - h (rdT l m).f0) = d
      generalize ho : leastR n (pk l (ftree n l m)) = o at c L
      refine ⟨fun v => if rd o v = rd o (rdT l m).f1 then h v + d else h v, fun r hr2 => ?_⟩
      rw [pk_snoc] at hr2
      rcases List.mem_append.1 hr2 with q | q
      · have e := L.cl r q
        have := hh r q
        dsimp only
        rw [e]
        split <;> omega
      · rw [List.mem_singleton.1 q]
        dsimp only
        rw [if_pos rfl, if_neg c]
        omega
/-- How many parts. -/
def parts (o : List Int) : Nat := ((List.range o.length).filter fun (i : Nat) => decide (rd o (i : Int) = (i : Int))).length
theorem filter_one (P Q : Nat → Bool) (z : Nat) : ∀ n, z < n → (∀ i, i < n → i ≠ z → P i = Q i) → P z = false → Q z = true → ((List.range n).filter P).length + 1 = ((List.range n).filter Q).length
  | 0, h, _, _, _ => by omega
  | n + 1, h, he, h0, h1 => by
    rw [List.range_succ, List.filter_append, List.filter_append, List.length_append, List.length_append]
    by_cases q : z = n
    · subst q
      have : (List.range z).filter P = (List.range z).filter Q := List.filter_congr fun i hi => by
        have := List.mem_range.1 hi
        exact he i (by omega) (by omega)
      rw [this]
      simp [h0, h1]
    · have ih := filter_one P Q z n (by omega) (fun i hi => he i (by omega)) h0 h1
      have e := he n (by omega) (by omega)
      simp only [List.filter_cons, List.filter_nil, e]
      omega
theorem parts_mg {n : Int} {l : List Run} {o : List Int} (L : Lst n l o) {a b : Int} (ha : 0 ≤ a ∧ a < n) (hb : 0 ≤ b ∧ b < n) (hab : rd o a ≠ rd o b) : parts (mg o (rd o a) (rd o b)) + 1 = parts o := by
  have hl := L.len
  have rep : ∀ v, 0 ≤ v → v < n → rd o (rd o v) = rd o v := fun v v0 v1 => (L.lk v v0 v1).const (rd o) L.cl
  have a1 := L.le a ha.1 ha.2; have a0 := L.nn a ha.1 ha.2
  have b1 := L.le b hb.1 hb.2; have b0 := L.nn b hb.1 hb.2
  have ra := rep a ha.1 ha.2; have rb := rep b hb.1 hb.2
  unfold parts
  have hlen : (mg o (rd o a) (rd o b)).length = o.length := by simp [mg]
  rw [hlen]
  have hz : (max (rd o a) (rd o b)).toNat < o.length := by omega
  have hzc : (((max (rd o a) (rd o b)).toNat : Nat) : Int) = max (rd o a) (rd o b) := by omega
  have hrep : rd o (max (rd o a) (rd o b)) = max (rd o a) (rd o b) := by
    rcases Int.le_total (rd o a) (rd o b) with c | c
    · rw [Int.max_eq_right c]; exact rb
    · rw [Int.max_eq_left c]; exact ra
  refine filter_one _ _ (max (rd o a) (rd o b)).toNat o.length hz (fun i hi hne => ?_) ?_ ?_
  · rw [rd_mg _ _ _ _ (by omega) (by omega)]
    split
    · next c =>
      have hne2 : (i : Int) ≠ max (rd o a) (rd o b) := by omega
      have i1 := L.le i (by omega) (by omega)
      rw [decide_eq_false (by omega), decide_eq_false (by omega)]
    · rfl
  · rw [hzc, rd_mg _ _ _ _ (by omega) (by omega), hrep, if_pos rfl, decide_eq_false (by omega)]
  · rw [hzc, hrep]; simp
theorem parts_iota (n : Int) (hn : 0 ≤ n) : parts (iota n) = n.toNat := by
  unfold parts
  have hl := iota_len n hn
  rw [List.filter_eq_self.2 (fun i hi => ?_), List.length_range]
  · omega
  · have := List.mem_range.1 hi
    rw [rd_iota n i (by omega) (by omega)]; simp
theorem ft_parts {n : Int} (hn : 0 ≤ n) {l : List Run} (hv : VL n l) : ∀ m, m ≤ l.length → parts (leastR n (pk l (ftree n l m))) + (ftree n l m).length = n.toNat
  | 0, _ => by
    show parts (leastR n []) + 0 = _
    rw [show leastR n [] = iota n from rfl, parts_iota n hn]
    omega
  | m + 1, hm => by
    have ih := ft_parts hn hv m (by omega)
    have hr := hv _ (rdT_mem (l := l) (k := m) (by omega))
    have hV := ft_VL (m := m) hv (by omega)
    have L := leastR_lst hn _ hV
    rw [ftree, ftStep]
    split
    · exact ih
    · next c =>
      have := parts_mg L ⟨hr.1, hr.2.1⟩ ⟨hr.2.2.1, hr.2.2.2⟩ c
      rw [pk_snoc, leastR_snoc, List.length_append, List.length_singleton]
      omega
/-- Whole: one part. -/
theorem parts_whole {n : Int} (hn : 1 ≤ n) {l : List Run} (hv : VL n l) (hw : ∀ v, 0 ≤ v → v < n → Lk l 0 v) : parts (leastR n l) = 1 := by
  have L := leastR_lst (by omega) l hv
  have hl := L.len
  have e0 : rd (leastR n l) 0 = 0 := by have := L.le 0 (by omega) (by omega); have := L.nn 0 (by omega) (by omega); omega
  have ez : ∀ v, 0 ≤ v → v < n → rd (leastR n l) v = 0 := fun v v0 v1 => by rw [← (lk_iff L ⟨by omega, by omega⟩ ⟨v0, v1⟩).1 (hw v v0 v1), e0]
  unfold parts
  have h := filter_one (fun _ => false) (fun i => decide (rd (leastR n l) (i : Int) = (i : Int))) 0 (leastR n l).length (by omega) (fun i hi hne => by
    rw [ez i (by omega) (by omega)]; simp; omega) rfl (by simp [e0])
  rw [← h]
  simp
/-! ways -/
inductive Way (l : List Run) (t : List Int) : List Int → Int → Int → Prop
  | nil (a : Int) : Way l t [] a a
  | up {k : Int} {w : List Int} {b : Int} (hk : k ∈ t) (h : Way l t w (rdT l k).f1 b) : Way l t ((k + 1) :: w) (rdT l k).f0 b
  | dn {k : Int} {w : List Int} {b : Int} (hk : k ∈ t) (h : Way l t w (rdT l k).f0 b) : Way l t (-(k + 1) :: w) (rdT l k).f1 b
theorem Way.snoc_up {l : List Run} {t : List Int} {w : List Int} {a b k : Int} (h : Way l t w a b) (hk : k ∈ t) (e : (rdT l k).f0 = b) : Way l t (w ++ [k + 1]) a (rdT l k).f1 := by
  induction h with
  | nil a => rw [← e]; exact .up hk (.nil _)
  | up h1 _ ih => exact .up h1 (ih e)
  | dn h1 _ ih => exact .dn h1 (ih e)
theorem Way.snoc_dn {l : List Run} {t : List Int} {w : List Int} {a b k : Int} (h : Way l t w a b) (hk : k ∈ t) (e : (rdT l k).f1 = b) : Way l t (w ++ [-(k + 1)]) a (rdT l k).f0 := by
  induction h with
  | nil a => rw [← e]; exact .dn hk (.nil _)
  | up h1 _ ih => exact .up h1 (ih e)
  | dn h1 _ ih => exact .dn h1 (ih e)
/-- The rise of a number. -/
def nrise (l : List Run) (x : Int) : Int := if x > 0 then (rdT l (x - 1)).f2 else -(rdT l (-x - 1)).f2
def wsum (l : List Run) : List Int → Int
  | [] => 0
  | x :: w => nrise l x + wsum l w
theorem Way.sum {l : List Run} {t : List Int} (ht : ∀ k ∈ t, 0 ≤ k) {h : Int → Int} (hp : pot h (pk l t)) {w : List Int} {a b : Int} (hw : Way l t w a b) : wsum l w = h b - h a := by
  induction hw with
  | nil a => simp [wsum]
  | @up k w b hk _ ih =>
    have := ht k hk
    have e := hp (rdT l k) (List.mem_map.2 ⟨k, hk, rfl⟩)
    rw [wsum, ih, nrise, if_pos (by omega), show k + 1 - 1 = k by omega]
    omega
  | @dn k w b hk _ ih =>
    have := ht k hk
    have e := hp (rdT l k) (List.mem_map.2 ⟨k, hk, rfl⟩)
    rw [wsum, ih, nrise, if_neg (by omega), show -(-(k + 1)) - 1 = k by omega]
    omega
end Go.Proofs.Ytmcfhmflncghiaa.Pure
namespace Go.Proofs.Ytmcfhmflncghiaa.Pure
open Go.RowKit Go.Proofs.Ytmcfhmflncghiaa.Q Go.Proofs.Ytmcfhmflncghiaa.TreeW Go.Proofs.YtmcfhmflncghiaaW.PrintWords Go.Proofs.YtmcfhmflncghiaaW.PrintLast Go.Proofs.YtmcfhmflncghiaaW.PrintMore
theorem rdOf_set (o : List Bool) (i v : Int) (x : Bool) (h0 : 0 ≤ i) (hv : 0 ≤ v) (hl : v < o.length) : rdOf false (o.set i.toNat x) v = if v = i then x else rdOf false o v := by
  unfold rdOf
  obtain ⟨a, rfl⟩ : ∃ a : Nat, i = a := ⟨i.toNat, by omega⟩
  obtain ⟨b, rfl⟩ : ∃ b : Nat, v = b := ⟨v.toNat, by omega⟩
  simp only [Int.toNat_natCast, List.getD, List.getElem?_set]
  by_cases e : a = b
  · subst e; rw [if_pos rfl, if_pos rfl, if_pos (by omega)]; rfl
  · rw [if_neg e, if_neg (by omega)]
theorem count_set_false : ∀ (o : List Bool) (i : Nat), (h : i < o.length) → o[i] = false → (o.set i true).count false + 1 = o.count false
  | [], i, h, _ => by simp at h
  | x :: o, 0, _, e => by
    simp only [List.getElem_cons_zero] at e
    simp [List.set_cons_zero, e]
  | x :: o, i + 1, h, e => by
    have ih := count_set_false o i (by simpa using h) (by simpa using e)
    simp only [List.set_cons_succ, List.count_cons]
    omega
theorem count_rdOf (o : List Bool) (x : Int) (h0 : 0 ≤ x) (h1 : x < o.length) (e : rdOf false o x = false) : (o.set x.toNat true).count false + 1 = o.count false := by
  obtain ⟨i, rfl⟩ : ∃ i : Nat, x = i := ⟨x.toNat, by omega⟩
  have hi : i < o.length := by omega
  refine count_set_false o i hi ?_
  unfold rdOf at e
  simpa [List.getD, hi] using e
/-- What a branch must be. -/
def okB (l : List Run) (t : List Int) (a : Int) (sn : List Bool) (x : Br) : Prop := (0 ≤ x.1 ∧ x.1 < 6) ∧ rdOf false sn x.1 = true ∧ Way l t x.2 a x.1 ∧ x.2.length + sn.count false ≤ 5
structure TinOut (l : List Run) (t : List Int) (a nd : Int) (xs : List Int) (st : List Br) (sn : List Bool) (st' : List Br) (sn' : List Bool) : Prop where
  len : sn'.length = 6
  grow : ∀ v, 0 ≤ v → v < 6 → rdOf false sn v = true → rdOf false sn' v = true
  done : ∀ k ∈ xs, ((rdT l k).f1 = nd → rdOf false sn' (rdT l k).f0 = true) ∧ ((rdT l k).f0 = nd → rdOf false sn' (rdT l k).f1 = true)
  new : ∀ v, 0 ≤ v → v < 6 → rdOf false sn' v = true → rdOf false sn v = true ∨ v ∈ st'.map (·.1)
  keep : ∀ x ∈ st, x ∈ st'
  ok : (∀ x ∈ st, okB l t a sn x) → ∀ x ∈ st', okB l t a sn' x
  cnt : st'.length + sn'.count false = st.length + sn.count false
  le : sn'.count false ≤ sn.count false
theorem tstep_ok {l : List Run} {t : List Int} {a nd num nx : Int} {way : List Int} {st : List Br} {sn : List Bool} (hlen : sn.length = 6) (hnx : 0 ≤ nx ∧ nx < 6) (hw : Way l t (way ++ [num]) a nx) (hwl : way.length + sn.count false ≤ 5) (hst : st.length + sn.count false ≤ 10) :
    ∃ st' sn', tstep num nx way st sn = some (st', sn') ∧ TinOut l t a nd [] st sn st' sn' ∧ rdOf false sn' nx = true := by
  unfold tstep
  rw [if_pos ⟨hnx.1, by omega⟩]
  by_cases c : rdOf false sn nx = true
  · rw [if_pos c]
    exact ⟨st, sn, rfl, ⟨hlen, fun _ _ _ h => h, by simp, fun _ _ _ h => .inl h, fun _ h => h, fun h => h, rfl, Nat.le_refl _⟩, c⟩
  · have hc := count_rdOf sn nx hnx.1 (by omega) (Bool.eq_false_iff.2 c)
    have hset := fun v v0 v1 => rdOf_set sn nx v true hnx.1 v0 (show v < (sn.length : Int) by rw [hlen]; exact v1)
    rw [if_neg c, if_pos ⟨by omega, by omega⟩]
    refine ⟨_, _, rfl, ⟨by rw [List.length_set]; exact hlen, fun v v0 v1 h => ?_, by simp, fun v v0 v1 h => ?_, fun x hx => List.mem_append_left _ hx, fun hok x hx => ?_, ?_, by omega⟩, ?_⟩
    · rw [hset v v0 v1]; split; rfl; exact h
    · rw [hset v v0 v1] at h
      split at h
      · next q => exact .inr (by rw [q]; simp)
      · exact .inl h
    · rcases List.mem_append.1 hx with q | q
      · obtain ⟨h1, h2, h3, h4⟩ := hok x q
        refine ⟨h1, ?_, h3, by omega⟩
        rw [hset x.1 h1.1 h1.2]; split; rfl; exact h2
      · rw [List.mem_singleton.1 q]
        refine ⟨hnx, ?_, hw, ?_⟩
        · rw [hset nx hnx.1 hnx.2, if_pos rfl]
        · show (way ++ [num]).length + _ ≤ 5
          rw [List.length_append, List.length_singleton]; omega
    · rw [List.length_append, List.length_singleton]; omega
    · rw [hset nx hnx.1 hnx.2, if_pos rfl]
theorem tin_ok {n : Int} {l : List Run} {t : List Int} (hn : n ≤ 6) (hv : VL n l) (hl : l.length ≤ 12) (ht : ∀ k ∈ t, 0 ≤ k ∧ k < (l.length : Int)) {a nd : Int} {way : List Int} : ∀ (xs : List Int) (st : List Br) (sn : List Bool), (∀ k ∈ xs, k ∈ t) → sn.length = 6 → (0 ≤ nd ∧ nd < 6) → rdOf false sn nd = true → Way l t way a nd → way.length + sn.count false ≤ 5 → st.length + sn.count false ≤ 10 →
    ∃ st' sn', tin l nd way xs st sn = some (st', sn') ∧ TinOut l t a nd xs st sn st' sn'
  | [], st, sn, _, hlen, _, _, _, _, _ => ⟨st, sn, rfl, ⟨hlen, fun _ _ _ h => h, by simp, fun _ _ _ h => .inl h, fun _ h => h, fun h => h, rfl, Nat.le_refl _⟩⟩
  | x :: xs, st, sn, hxs, hlen, hndr, hnd, hw, hwl, hst => by
    have hx := hxs x (by simp)
    have hxr := ht x hx
    have hm : rdT l x ∈ l := by
      obtain ⟨i, rfl⟩ : ∃ i : Nat, x = i := ⟨x.toNat, by omega⟩
      exact rdT_mem (by omega)
    have hb := hv _ hm
    have e1 : wrap64 (x + 1) = x + 1 := nw64 (by omega) (by omega)
    have e2 : wrap64 (-(x + 1)) = -(x + 1) := nw64 (by omega) (by omega)
    have key : ∃ st1 sn1, tone l nd way x st sn = some (st1, sn1) ∧ TinOut l t a nd [] st sn st1 sn1 ∧ ((rdT l x).f1 = nd → rdOf false sn1 (rdT l x).f0 = true) ∧ ((rdT l x).f0 = nd → rdOf false sn1 (rdT l x).f1 = true) := by
      unfold tone
      rw [if_pos hxr, e1, e2]
      by_cases c1 : (rdT l x).f1 = nd
      · rw [if_pos c1]
        obtain ⟨st1, sn1, h1, h2, h3⟩ := tstep_ok (nd := nd) hlen (num := -(x + 1)) (nx := (rdT l x).f0) ⟨hb.1, by omega⟩ (hw.snoc_dn hx c1) hwl hst
        exact ⟨st1, sn1, h1, h2, fun _ => h3, fun _ => by rw [c1]; exact h2.grow nd hndr.1 hndr.2 hnd⟩
      · rw [if_neg c1]
        by_cases c2 : (rdT l x).f0 = nd
        · rw [if_pos c2]
          obtain ⟨st1, sn1, h1, h2, h3⟩ := tstep_ok (nd := nd) hlen (num := x + 1) (nx := (rdT l x).f1) ⟨hb.2.2.1, by omega⟩ (hw.snoc_up hx c2) hwl hst
          exact ⟨st1, sn1, h1, h2, fun q => absurd q c1, fun _ => h3⟩
        · rw [if_neg c2]
          exact ⟨st, sn, rfl, ⟨hlen, fun _ _ _ h => h, by simp, fun _ _ _ h => .inl h, fun _ h => h, fun h => h, rfl, Nat.le_refl _⟩, fun q => absurd q c1, fun q => absurd q c2⟩
    obtain ⟨st1, sn1, h1, h2, h3, h4⟩ := key
    have hr : rdOf false sn1 nd = true := h2.grow nd hndr.1 hndr.2 hnd
    have hle := h2.le; have hcnt := h2.cnt
    obtain ⟨st2, sn2, g1, g2⟩ := tin_ok hn hv hl ht xs st1 sn1 (fun k hk => hxs k (by simp [hk])) h2.len hndr hr hw (by omega) (by omega)
    refine ⟨st2, sn2, by rw [tin, h1]; exact g1, ⟨g2.len, fun v v0 v1 h => g2.grow v v0 v1 (h2.grow v v0 v1 h), fun k hk => ?_, fun v v0 v1 h => ?_, fun x hx => g2.keep x (h2.keep x hx), fun h => g2.ok (h2.ok h), by have := g2.cnt; omega, by have := g2.le; omega⟩⟩
    · rcases List.mem_cons.1 hk with rfl | q
      · exact ⟨fun c => g2.grow _ hb.1 (by omega) (h3 c), fun c => g2.grow _ hb.2.2.1 (by omega) (h4 c)⟩
      · exact g2.done k q
    · rcases g2.new v v0 v1 h with q | q
      · rcases h2.new v v0 v1 q with z | z
        · exact .inl z
        · obtain ⟨y, hy, e⟩ := List.mem_map.1 z
          exact .inr (List.mem_map.2 ⟨y, g2.keep y hy, e⟩)
      · exact .inr q
theorem tout_ok {n : Int} {l : List Run} {t : List Int} (hn : n ≤ 6) (hv : VL n l) (hl : l.length ≤ 12) (ht : ∀ k ∈ t, 0 ≤ k ∧ k < (l.length : Int)) {a b : Int} (har : 0 ≤ a ∧ a < 6) (hlk : Lk (pk l t) a b) : ∀ (k : Nat) (st : List Br) (sn : List Bool), st.length + sn.count false < k → st.length + sn.count false ≤ 10 → sn.length = 6 →
    (∀ x ∈ st, okB l t a sn x) → rdOf false sn a = true → (0 ≤ b ∧ b < 6) → (rdOf false sn b = true → b ∈ st.map (·.1)) →
    (∀ u, 0 ≤ u → u < 6 → rdOf false sn u = true → u ∉ st.map (·.1) → ∀ j ∈ t, ((rdT l j).f1 = u → rdOf false sn (rdT l j).f0 = true) ∧ ((rdT l j).f0 = u → rdOf false sn (rdT l j).f1 = true)) →
    ∃ w, tout l t b k st sn = some w ∧ Way l t w a b ∧ w.length ≤ 5
  | 0, _, _, h, _, _, _, _, _, _, _ => by omega
  | k + 1, st, sn, hk, h10, hlen, hok, ha, hbr, hb, hcl => by
    rw [tout]
    rcases List.eq_nil_or_concat st with rfl | ⟨st, x, e⟩
    · exfalso
      have hc : ∀ r ∈ pk l t, (rdOf false sn r.f0 = true) = (rdOf false sn r.f1 = true) := fun r hr => by
        obtain ⟨j, hj, rfl⟩ := List.mem_map.1 hr
        have hjr := ht j hj
        have hm : rdT l j ∈ l := by
          obtain ⟨i, rfl⟩ : ∃ i : Nat, j = i := ⟨j.toNat, by omega⟩
          exact rdT_mem (by omega)
        have hb2 := hv _ hm
        exact propext ⟨fun q => (hcl _ hb2.1 (by omega) q (by simp) j hj).2 rfl, fun q => (hcl _ hb2.2.2.1 (by omega) q (by simp) j hj).1 rfl⟩
      have := (hlk.const (fun v => rdOf false sn v = true) hc).mp ha
      simpa using hb this
    · have e2 : st ++ [x] = st.concat x := by simp
      rw [e, ← e2] at hk h10 hok hb hcl ⊢
      rw [List.getLast?_append, List.getLast?_singleton, List.dropLast_concat]
      dsimp only [Option.or]
      obtain ⟨o1, o2, o3, o4⟩ := hok x (by simp)
      rw [List.length_append, List.length_singleton] at hk h10
      by_cases c : x.1 = b
      · rw [if_pos c]
        exact ⟨x.2, rfl, by rw [← c]; exact o3, by omega⟩
      · rw [if_neg c]
        obtain ⟨st', sn', h1, h2⟩ := tin_ok hn hv hl ht (a := a) (nd := x.1) (way := x.2) t st sn (fun _ h => h) hlen o1 o2 o3 o4 (by omega)
        rw [h1]
        simp only [Option.bind_some]
        have hcnt := h2.cnt
        refine tout_ok hn hv hl ht har hlk k st' sn' (by omega) (by omega) h2.len (h2.ok fun y hy => hok y (by simp [hy])) (h2.grow a har.1 har.2 ha) hbr (fun q => ?_) (fun u u0 u1 us hu j hj => ?_)
        · rcases h2.new b hbr.1 hbr.2 q with z | z
          · have := hb z
            rw [List.map_append, List.mem_append] at this
            rcases this with y | y
            · obtain ⟨y1, y2, y3⟩ := List.mem_map.1 y
              exact List.mem_map.2 ⟨y1, h2.keep y1 y2, y3⟩
            · exact absurd (by simpa using y) (fun q : b = x.1 => c q.symm)
          · exact z
        · by_cases q : u = x.1
          · subst q; exact h2.done j hj
          · have hjr := ht j hj
            have hm : rdT l j ∈ l := by
              obtain ⟨i, rfl⟩ : ∃ i : Nat, j = i := ⟨j.toNat, by omega⟩
              exact rdT_mem (by omega)
            have hb2 := hv _ hm
            rcases h2.new u u0 u1 us with z | z
            · have := hcl u u0 u1 z (by
                intro hm2
                rw [List.map_append, List.mem_append] at hm2
                rcases hm2 with y | y
                · obtain ⟨y1, y2, y3⟩ := List.mem_map.1 y
                  exact hu (List.mem_map.2 ⟨y1, h2.keep y1 y2, y3⟩)
                · exact q (by simpa using y)) j hj
              exact ⟨fun s => h2.grow _ hb2.1 (by omega) (this.1 s), fun s => h2.grow _ hb2.2.2.1 (by omega) (this.2 s)⟩
            · exact absurd z hu
theorem treeR_ok {n : Int} {l : List Run} {t : List Int} (hn : n ≤ 6) (hv : VL n l) (hl : l.length ≤ 12) (ht : ∀ k ∈ t, 0 ≤ k ∧ k < (l.length : Int)) (htl : t.length ≤ 1000) {a b : Int} (ha : 0 ≤ a ∧ a < n) (hb : 0 ≤ b ∧ b < n) (hlk : Lk (pk l t) a b) : ∃ w, treeR 100 l t a b = some w ∧ Way l t w a b ∧ w.length ≤ 5 := by
  unfold treeR
  rw [if_pos ⟨ha.1, by omega, by omega, htl⟩]
  have hset := fun v (v0 : (0 : Int) ≤ v) (v1 : v < 6) => rdOf_set (List.replicate 6 false) a v true ha.1 v0 (by simpa using v1)
  have hr : ∀ v : Int, rdOf false (List.replicate 6 false) v = false := fun v => by unfold rdOf; rw [List.getD_eq_getElem?_getD, List.getElem?_replicate]; split <;> rfl
  have hc := count_rdOf (List.replicate 6 false) a ha.1 (by simp; omega) (hr a)
  rw [List.count_replicate_self] at hc
  have hs : ∀ v : Int, 0 ≤ v → v < 6 → rdOf false ((List.replicate 6 false).set a.toNat true) v = true → v = a := fun v v0 v1 h => by
    rw [hset v v0 v1, hr] at h
    by_cases q : v = a
    · exact q
    · rw [if_neg q] at h; cases h
  have hsa : rdOf false ((List.replicate 6 false).set a.toNat true) a = true := by rw [hset a ha.1 (by omega), if_pos rfl]
  refine tout_ok hn hv hl ht ⟨ha.1, by omega⟩ hlk 100 _ _ (by simp only [List.length_singleton]; omega) (by simp only [List.length_singleton]; omega) (by simp) (fun x hx => ?_) hsa ⟨hb.1, by omega⟩ (fun q => by rw [hs b hb.1 (by omega) q]; simp) (fun u u0 u1 us hu => absurd (by rw [hs u u0 u1 us]; simp) hu)
  rw [List.mem_singleton.1 hx]
  exact ⟨⟨ha.1, by show a < 6; omega⟩, hsa, .nil a, by show ([] : List Int).length + _ ≤ 5; simp only [List.length_nil]; omega⟩
end Go.Proofs.Ytmcfhmflncghiaa.Pure
