/- Part 3 of what the proof of this law rests on: the functions of the translation as plain Lean functions with their walks, and the plain laws behind. -/
import Derived.BigRegion
import Derived.Carry
import Derived.Deep.AppendLies
import Derived.Deep.RegionHeldLaw
import Derived.Deep.RegionLaw
import Derived.Laws.CopyOwn
import Derived.Laws.OwnMore
import Derived.Maps.GroupsBeside
import Derived.OwnWalk
import Derived.StillTactics
import Derived.WalkKit
import Derived.WalkSpells
import Derived.Test.YtmcfhmflncghiaaMFnLoopCloses2
namespace Go.Proofs.Ytmcfhmflncghiaa.Q
open Go.RowKit Go.Proofs.YtmcfhmflncghiaaW.PrintWords Go.Proofs.YtmcfhmflncghiaaW.PrintLast Go.Proofs.YtmcfhmflncghiaaW.PrintMore
attribute [local go_sem] max2_int min2_int max_two min_two max_three min_three max_four min_four
set_option linter.unusedVariables false
set_option linter.unusedSimpArgs false

/-! ### spec_l91True: function 24 -/
mutual
def spec_l91True.l0 : Nat → Int → List (S32) → List Int → Int → List Int → Int → Option (Int × (List (S32)) × Int)
  | 0, _, _, _, _, _, _ => none
  | k + 1, x6, x7, x8, x9, x1000, x1001 => if x9 < x6 then ((spec_l6Rd_pick.f k x1000 x1001 41).bind fun bt174 => (if x8.length < 17592186044416 then (spec_l91True.l0 k x6 x7 (x8 ++ [wrap64 (bt174.1 - 20)]) (wrap64 (x9 + 1)) x1000 bt174.2) else (none))) else (spec_l91True.l1 k x6 x7 x8 0 x1000 x1001)
def spec_l91True.l1 : Nat → Int → List (S32) → List Int → Int → List Int → Int → Option (Int × (List (S32)) × Int)
  | 0, _, _, _, _, _, _ => none
  | k + 1, x6, x7, x8, x10, x1000, x1001 => if x10 < (x7.length : Int) then (if 0 ≤ x10 then (if 0 ≤ ((rd_T32 x7 x10).f1) then (if ((rd_T32 x7 x10).f1) < (x8.length : Int) then (if 0 ≤ ((rd_T32 x7 x10).f0) then (if ((rd_T32 x7 x10).f0) < (x8.length : Int) then (spec_l91True.l1 k x6 (x7.set (x10 : Int).toNat (⟨(rd_T32 x7 x10).f0, (rd_T32 x7 x10).f1, wrap64 ((rd x8 ((rd_T32 x7 x10).f1)) - (rd x8 ((rd_T32 x7 x10).f0))), (rd_T32 x7 x10).f3⟩ : S32)) x8 (wrap64 (x10 + 1)) x1000 x1001) else (none)) else (none)) else (none)) else (none)) else (none)) else (if (x7.length : Int) > 0 then ((spec_l6Rd_pick.f k x1000 x1001 2).bind fun bt184 => (spec_l91True.j2 k x6 x7 (bt184.1 == 0) x1000 bt184.2)) else (spec_l91True.j2 k x6 x7 false x1000 x1001))
def spec_l91True.j2 : Nat → Int → List (S32) → Bool → List Int → Int → Option (Int × (List (S32)) × Int)
  | 0, _, _, _, _, _ => none
  | k + 1, x6, x7, x70, x1000, x1001 => if x70 = true then ((spec_l6Rd_pick.f k x1000 x1001 (x7.length : Int)).bind fun bt186 => (if 0 ≤ bt186.1 then (if bt186.1 < (x7.length : Int) then ((spec_l6Rd_pick.f k x1000 bt186.2 9).bind fun bt189 => (some (x6, (x7.set (bt186.1 : Int).toNat (⟨(rd_T32 x7 bt186.1).f0, (rd_T32 x7 bt186.1).f1, wrap64 ((wrap64 (((rd_T32 x7 bt186.1).f2) + 1)) + bt189.1), (rd_T32 x7 bt186.1).f3⟩ : S32)), bt189.2))) else (none)) else (none))) else (some (x6, x7, x1001))
end
def spec_l91True.f (k : Nat) (s0_0 : List Int) (s0_1 : Int) (a1 : Int) : Option (Int × (List (S32)) × Int) := (spec_l91Net.f k s0_0 s0_1 a1).bind fun bt165 => ((spec_NetValid.f k bt165.1 bt165.2.1).bind fun t170 => (if t170 = true then (spec_l91True.l0 k bt165.1 bt165.2.1 (([] : List Int)) 0 s0_0 bt165.2.2) else (some (bt165.1, bt165.2.1, bt165.2.2))))
def spec_l91True.T12 : Bool × List (List Nat × List Nat) := (true, [([], []), ([], []), ([], []), ([], []), ([], []), ([3, 4], [3, 4]), ([5], [5]), ([6], [6]), ([2, 7], [2, 7]), ([8], [8]), ([], []), ([], []), ([], []), ([11, 12], [11, 12]), ([13], [13]), ([14], [14]), ([10, 15], [10, 15]), ([16], [16]), ([9, 17], [9, 17]), ([0, 1, 0, 1, 2, 3, 4, 5, 6, 7, 8, 9, 10, 11, 12, 13, 14, 15, 16, 17, 18], [0, 1]), ([19, 0, 1, 2, 3, 4, 5, 6, 7, 8, 9, 10, 11, 12, 13, 14, 15, 16, 17, 18], [19]), ([20, 18, 0, 1, 2, 3, 4, 5, 6, 7, 8, 9, 10, 11, 12, 13, 14, 15, 16, 17, 18], [18, 20])])
def spec_l91True.B12 : List Nat := [0, 0, 0, 0, 0, 24, 56, 120, 252, 508, 0, 0, 0, 6144, 14336, 30720, 64512, 130048, 262140, 524287, 1048575, 2097151]
theorem spec_l91True.tab12 : rtab .any (opsOf Try.f24 12) = spec_l91True.T12 := by kernel_rfl
theorem spec_l91True.bits12 : waitsOk spec_l91True.T12.2 spec_l91True.B12 = true := by kernel_rfl
def spec_l91True.T15 : Bool × List (List Nat × List Nat) := (true, [([], []), ([], []), ([], []), ([], []), ([2, 3], [2, 3]), ([4], [4]), ([5], [5]), ([6], [6]), ([], []), ([8], [8]), ([7, 9], [7, 9]), ([0, 1, 0, 1, 2, 3, 4, 5, 6, 7, 8, 9, 10], [0, 1]), ([11, 0, 1, 2, 3, 4, 5, 6, 7, 8, 9, 10], [11]), ([12, 10, 9, 0, 1, 2, 3, 4, 5, 6, 7, 8, 9, 10], [10, 12])])
def spec_l91True.B15 : List Nat := [0, 0, 0, 0, 12, 28, 60, 124, 0, 256, 1020, 2047, 4095, 8191]
theorem spec_l91True.tab15 : rtab .any (opsOf Try.f24 15) = spec_l91True.T15 := by kernel_rfl
theorem spec_l91True.bits15 : waitsOk spec_l91True.T15.2 spec_l91True.B15 = true := by kernel_rfl
set_option maxHeartbeats 8000000 in
set_option maxRecDepth 100000 in
theorem spec_l91True.calls (k : Nat) (g : Nat) (s0_0 : List Int) (s0_1 : Int) (a1 : Int) (r1 : Int) (r2 : List (S32)) (r3 : Int) (w0 w : World) (hI : IsS61 w0 w g s0_0 s0_1) (hB : Below w0.heap.size w0 w) (h : spec_l91True.f k s0_0 s0_1 a1 = some (r1, r2, r3)) :
    Calls Try.prog 24 #[.pointer (some ⟨g, 0, none⟩), .int .i64 a1] w fun e w' => ∃ v1_ : Value, e = .returned (.tuple #[.int .i64 r1, v1_]) ∧ Kd.R k32 32 w' w.heap.size (fun _ => True) v1_ r2 ∧ IsS61 w0 w' g s0_0 r3 ∧ Below w0.heap.size w0 w' ∧ KeepBut w w' g none := by
  have HI0 := Aside0.mk hI
  have HK := Aside0.mk (KeepBut.refl w g none)
  have HL := Aside0.mk hB.size
  clear hI
  have HW0 := Aside0.mk hB.size
  have HB := Aside0.mk hB
  clear hB
  have H : ((spec_l91Net.f k s0_0 s0_1 a1).bind fun bt165 => ((spec_NetValid.f k bt165.1 bt165.2.1).bind fun t170 => (if t170 = true then (spec_l91True.l0 k bt165.1 bt165.2.1 (([] : List Int)) 0 s0_0 bt165.2.2) else (some (bt165.1, bt165.2.1, bt165.2.2))))) = some (r1, r2, r3) := h
  clear h
  replace H := Option.bind_eq_some_iff.mp H
  obtain ⟨⟨t165, t166, t169⟩, A30, H⟩ := H
  replace H : ((spec_NetValid.f k t165 t166).bind fun t170 => (if t170 = true then (spec_l91True.l0 k t165 t166 (([] : List Int)) 0 s0_0 t169) else (some (t165, t166, t169)))) = some (r1, r2, r3) := H
  have A3 := Aside0.mk A30
  clear A30
  replace H := Option.bind_eq_some_iff.mp H
  obtain ⟨t170, A40, H⟩ := H
  replace H : (if t170 = true then (spec_l91True.l0 k t165 t166 (([] : List Int)) 0 s0_0 t169) else (some (t165, t166, t169))) = some (r1, r2, r3) := H
  have A4 := Aside0.mk A40
  clear A40
  by_cases c5 : t170 = true
  · subst c5
    have H1 : (spec_l91True.l0 k t165 t166 (([] : List Int)) 0 s0_0 t169) = some (r1, r2, r3) := by rw [if_pos rfl] at H; exact H
    clear H
    have H := H1
    clear H1
    obtain ⟨y171, hy171⟩ : ∃ y_ : List Int, y_ = (([] : List Int)) := ⟨_, rfl⟩
    replace H : (spec_l91True.l0 k t165 t166 y171 0 s0_0 t169) = some (r1, r2, r3) := by first | (rw [hy171]; with_reducible exact H) | (have H2_ := (Option.bind_some _ _).symm.trans H; rw [hy171]; with_reducible exact H2_) | (have H2_ := (Option.bind_some _ _).symm.trans H; with_reducible exact H2_) | with_reducible exact H | (rw [hy171]; exact H) | exact H
    have Ny171 := Aside0.mk hy171
    clear hy171
    have H' := Aside0.mk H
    clear H
    go_enter Try.func24, Try.ntmps24
    go_wp2_with (first | ((with_reducible refine gate_callee (f := 44) rfl ?_); refine goesL_ (some 15) rfl rfl Try.func44 (by kernel_rfl) rfl #[.pointer (some ⟨g, 0, none⟩), .int .i64 a1] rfl qq5 ?_; (with_reducible refine (spec_l91Net.calls k g s0_0 s0_1 a1 t165 t166 t169 w0 _ ?side1 ?side2 A3.out).mono ?_); (case side1 => exact qq9); (case side2 => exact qq8); rintro e w6 ⟨v167, rfl, ho0, hi, hb, hk⟩; refine ⟨_, rfl, ?_⟩; have n0_ := Aside0.mk (Kd.R_lower ho0 (keep_size (w := w) (g := g) (row := none) qq6)); have n1_ := Aside0.mk (KeepBut.trans qq6 hk (.inl rfl)); have n2_ := Aside0.mk (hb); have n3_ := Aside0.mk (hi); clear HK; clear HB; clear HI0; have HO168 := n0_; have HK := n1_; have HB := n2_; have HI0 := n3_; clear n0_ n1_ n2_ n3_; (try clear hb); (try clear hb2); (try clear hk); (try clear hi); (try clear ho0); obtain ⟨Ao7, co7, eo7⟩ := Kd.R_slice HO168.out; subst eo7) | ((with_reducible refine gate_callee (f := 45) rfl ?_); refine goesL_ (some 20) rfl rfl Try.func45 (by kernel_rfl) rfl #[.int .i64 t165, .slice Ao7 t166.length co7] rfl qq5 ?_; (with_reducible refine (spec_NetValid.calls k t165 _ _ t166 true _ ?side1 ?side2 A4.out).mono ?_); (case side1 => exact qq12 HO168.out); (case side2 => exact qq52 HO168.out); rintro e w8 ⟨rfl, hb⟩; refine ⟨_, rfl, ?_⟩; have n0_ := Aside0.mk (Kd.R_below (qq2 HO168.out) hb); have n1_ := Aside0.mk (IsS61.below qq9 hb); have n2_ := Aside0.mk (KeepBut.trans qq6 (KeepBut.of_below hb g none) (.inl rfl)); have n3_ := Aside0.mk (below_step qq8 hb); clear HO168; clear HI0; clear HK; clear HB; have HO168 := n0_; have HI0 := n1_; have HK := n2_; have HB := n3_; clear n0_ n1_ n2_ n3_; (try clear hb); (try clear hb2); (try clear hk); (try clear hi)) | ((with_reducible refine gate_dst (N := 24) rfl ?_); refine Kd.R_lit (Kd.int .i64) _ 3 ?hg (N := 24) ?hd (xs := ([] : List Int)) (inner := []) (ok := fun _ => True) (okp := fun _ => True) ?hr ?hp (fun _ hk => hk) trivial (Below.refl _ _) (Nat.le_refl _) (by simp) ?_; (case hd => rfl); (case hg => rfl); (case hr => exact qq16); (case hp => exact (Reps.none _ _)); intro v172 w9 ho10 hb hg_ hnew_; clear hg_ hnew_; (first | rw [← Ny171.out] at ho10 | (simp only [Int.reduceToNat] at ho10; rw [← Ny171.out] at ho10)); have n0_ := Aside0.mk (Kd.R_below (qq2 HO168.out) hb); have n1_ := Aside0.mk (Kd.R_lower ho10 (keep_size (w := w) (g := g) (row := none) qq6)); have n2_ := Aside0.mk (IsS61.below qq9 hb); have n3_ := Aside0.mk (KeepBut.trans qq6 (KeepBut.of_below hb g none) (.inl rfl)); have n4_ := Aside0.mk (below_step qq8 hb); clear HO168; clear HI0; clear HK; clear HB; have HO168 := n0_; have HO173 := n1_; have HI0 := n2_; have HK := n3_; have HB := n4_; clear n0_ n1_ n2_ n3_ n4_; clear hb ho10))
    go_loopg [8, 9] k (fun kq v8 v9 w' => ∃ (x8_1 : List Int) (x9_1 : Int) (x1001_1 : Int), v9 = .int .i64 x9_1 ∧ Aside0 (spec_l91True.l0 kq t165 t166 x8_1 x9_1 s0_0 x1001_1 = some (r1, r2, r3)) ∧ Aside0 (kq ≤ k) ∧ Aside0 (Kd.R k32 32 w' w.heap.size (fun _ => True) (.slice Ao7 t166.length co7) t166) ∧ Aside0 (Kd.R (Kd.int .i64) 3 w' w.heap.size (fun _ => True) v8 x8_1) ∧ Aside0 (IsS61 w0 w' g s0_0 x1001_1) ∧ Aside0 (KeepBut w w' g none) ∧ Aside0 (Below w0.heap.size w0 w'))
    case atStart => exact ⟨(y171), (0), (t169), qq14, H', ⟨Nat.le_refl _⟩, ⟨qq2 HO168.out⟩, ⟨qq2 HO173.out⟩, ⟨qq9⟩, ⟨qq6⟩, ⟨qq8⟩⟩
    case round =>
      clear H'
      try clear c2
      try clear p2
      try clear c4
      try clear c5
      obtain ⟨x8_1, x9_1, x1001_1, rfl, HA, HK1, HO_7, HO_8, HI0, HK, HB⟩ := hrel
      cases gk with
      | zero => exact absurd HA.out (by simp [spec_l91True.l0])
      | succ k1 =>
        have H := HA.out
        clear HA
        simp only [spec_l91True.l0] at H
        by_cases c11 : x9_1 < t165
        · rw [if_pos c11] at H
          have c11b0 : decide (x9_1 < t165) = true := decide_eq_true c11
          clear c11
          replace H := Option.bind_eq_some_iff.mp H
          obtain ⟨⟨t174, t175⟩, A120, H⟩ := H
          replace H : (if x8_1.length < 17592186044416 then (spec_l91True.l0 k1 t165 t166 (x8_1 ++ [wrap64 (t174 - 20)]) (wrap64 (x9_1 + 1)) s0_0 t175) else (none)) = some (r1, r2, r3) := H
          have A12 := Aside0.mk A120
          clear A120
          by_cases c13 : x8_1.length < 17592186044416
          · rw [if_pos c13] at H
            have LMc13 := Aside0.mk c13
            clear c13
            obtain ⟨y176, hy176⟩ : ∃ y_ : List Int, y_ = (x8_1 ++ [wrap64 (t174 - 20)]) := ⟨_, rfl⟩
            replace H : (spec_l91True.l0 k1 t165 t166 y176 (wrap64 (x9_1 + 1)) s0_0 t175) = some (r1, r2, r3) := by first | (rw [hy176]; with_reducible exact H) | (have H2_ := (Option.bind_some _ _).symm.trans H; rw [hy176]; with_reducible exact H2_) | (have H2_ := (Option.bind_some _ _).symm.trans H; with_reducible exact H2_) | with_reducible exact H | (rw [hy176]; exact H) | exact H
            have Ny176 := Aside0.mk hy176
            clear hy176
            have H' := Aside0.mk H
            clear H
            go_wp2_with (first | ((with_reducible refine gate_callee (f := 36) rfl ?_); refine goesL_ (some 32) rfl rfl Try.func36 (by kernel_rfl) rfl #[.pointer (some ⟨g, 0, none⟩), .int .i64 41] rfl qq5 ?_; (with_reducible refine (spec_l6Rd_pick.calls k1 g s0_0 x1001_1 41 t174 t175 w0 _ ?side1 ?side2 A12.out).mono ?_); (case side1 => exact qq9); (case side2 => exact qq8); rintro e w14 ⟨rfl, hi, hb, hk⟩; refine ⟨_, rfl, ?_⟩; have n0_ := Aside0.mk (Kd.R_mono (Kd.R_keep (IsS61.apart (show IsS61 w0 _ g s0_0 x1001_1 from by repeat (first | (with_reducible first | exact HI0.out | apply IsS61.alloc | apply IsS61.drewN | apply IsS61.drew | apply IsS61.set_1) | exact HI0.out)) (qq2 HO_7.out) (by decide)) hk (fun _ h => h.2)) (fun _ h => h.1)); have n1_ := Aside0.mk (Kd.R_mono (Kd.R_keep (IsS61.apart (show IsS61 w0 _ g s0_0 x1001_1 from by repeat (first | (with_reducible first | exact HI0.out | apply IsS61.alloc | apply IsS61.drewN | apply IsS61.drew | apply IsS61.set_1) | exact HI0.out)) (qq2 HO_8.out) (by decide)) hk (fun _ h => h.2)) (fun _ h => h.1)); have n2_ := Aside0.mk (KeepBut.trans qq6 hk (.inl rfl)); have n3_ := Aside0.mk (hb); have n4_ := Aside0.mk (hi); clear HO_7; clear HO_8; clear HK; clear HB; clear HI0; have HO_7 := n0_; have HO_8 := n1_; have HK := n2_; have HB := n3_; have HI0 := n4_; clear n0_ n1_ n2_ n3_ n4_; (try clear hb); (try clear hb2); (try clear hk); (try clear hi)) | ((with_reducible refine gate_builtin (b := .append) (xs := #[.tmp 30, .tmp 34]) rfl ?_); at_builtin; refine Kd.R_append (Kd.int .i64) w.heap.size rfl (.tmp 30) (.tmp 34) 27 3 (.int .i64 0) 8 rfl Try.underlying27 info3 rfl (by decide) (by omega) u8 x8_1 (wrap64 (t174 - 20)) [.int .i64 (wrap64 (t174 - 20))] (fun _ => True) (fun _ => False) rfl rfl ?aP (fun _ hk => hk.elim) ?aF ?aO (Below.refl _ _) ?aS ?aL ?_; (case aP => exact rfl); (case aF => exact qq77); (case aO => exact (qq2 HO_8.out)); (case aS => exact qq83); (case aL => have := LMc13.out; omega); intro v177 w15 ho hb hg hat; rw [← Ny176.out] at ho; have n0_ := Aside0.mk (Kd.R_over' (qq2 HO_7.out) (Kd.R_typed (qq2 HO_8.out)) (by decide) hg); have n1_ := Aside0.mk (IsS61.grown qq9 hg (IsS61.own_ne HI0.out HO_8.out (by decide))); have n2_ := Aside0.mk (below_weaken qq8 HL.out hb); have n3_ := Aside0.mk (KeepBut.trans qq6 (KeepBut.of_grown hg g) (Kd.R_base2 HO_8.out)); have n4_ := Aside0.mk (ho); clear HO_7; clear HI0; clear HB; clear HK; clear HO_8; have HO_7 := n0_; have HI0 := n1_; have HB := n2_; have HK := n3_; have HO178 := n4_; clear n0_ n1_ n2_ n3_ n4_; clear ho hb hg hat))
            go_roundg k1
            case measure => have := HK1.out; omega
            case rel => exact ⟨(y176), (wrap64 (x9_1 + 1)), (t175), qq14, H', ⟨by have := HK1.out; omega⟩, ⟨qq2 HO_7.out⟩, ⟨qq2 HO178.out⟩, ⟨qq9⟩, ⟨qq6⟩, ⟨qq8⟩⟩
          · rw [if_neg c13] at H
            exact absurd H (by simp)
        · rw [if_neg c11] at H
          have c11b0 : decide (x9_1 < t165) = false := decide_eq_false c11
          clear c11
          have H' := Aside0.mk H
          clear H
          go_wp2
          go_loopg [10] k1 (fun kq v10 w' => ∃ (x7_2 : List (S32)) (x10_2 : Int), v10 = .int .i64 x10_2 ∧ Aside0 (spec_l91True.l1 kq t165 x7_2 x8_1 x10_2 s0_0 x1001_1 = some (r1, r2, r3)) ∧ Aside0 (kq ≤ k1) ∧ Aside0 (Kd.R k32 32 w' w.heap.size (fun _ => True) (.slice Ao7 t166.length co7) x7_2) ∧ Aside0 (Kd.R (Kd.int .i64) 3 w' w.heap.size (fun _ => True) u8 x8_1) ∧ Aside0 (IsS61 w0 w' g s0_0 x1001_1) ∧ Aside0 (KeepBut w w' g none) ∧ Aside0 (Below w0.heap.size w0 w'))
          case atStart => exact ⟨(t166), (0), qq14, H', ⟨Nat.le_refl _⟩, ⟨qq2 HO_7.out⟩, ⟨qq2 HO_8.out⟩, ⟨qq9⟩, ⟨qq6⟩, ⟨qq8⟩⟩
          case round =>
            clear H'
            try clear c1
            try clear c2
            try clear p2
            try clear c3
            try clear c4
            try clear c5
            try clear p6
            try clear c11
            try clear c11b0
            try clear c13
            try clear p2
            obtain ⟨x7_2, x10_2, rfl, HA, HK2, HO_7, HO_8, HI0, HK, HB⟩ := hrel
            have hl7_2 := (Kd.R_reads' HO_7.out).1
            rw [hl7_2] at HO_7
            (try simp only [hl7_2])
            (try simp only [hl7_2] at HO_8)
            cases gk with
            | zero => exact absurd HA.out (by simp [spec_l91True.l1])
            | succ k2 =>
              have H := HA.out
              clear HA
              simp only [spec_l91True.l1] at H
              by_cases c16 : x10_2 < (x7_2.length : Int)
              · rw [if_pos c16] at H
                have c16b0 : decide (x10_2 < (x7_2.length : Int)) = true := decide_eq_true c16
                clear c16
                by_cases c17 : 0 ≤ x10_2
                · rw [if_pos c17] at H
                  have c17b0 : decide (0 ≤ x10_2) = true := decide_eq_true c17
                  clear c17
                  by_cases c18 : 0 ≤ ((rd_T32 x7_2 x10_2).f1)
                  · rw [if_pos c18] at H
                    have c18b0 : decide (0 ≤ ((rd_T32 x7_2 x10_2).f1)) = true := decide_eq_true c18
                    clear c18
                    by_cases c19 : ((rd_T32 x7_2 x10_2).f1) < (x8_1.length : Int)
                    · rw [if_pos c19] at H
                      have c19b0 : decide (((rd_T32 x7_2 x10_2).f1) < (x8_1.length : Int)) = true := decide_eq_true c19
                      clear c19
                      by_cases c20 : 0 ≤ ((rd_T32 x7_2 x10_2).f0)
                      · rw [if_pos c20] at H
                        have c20b0 : decide (0 ≤ ((rd_T32 x7_2 x10_2).f0)) = true := decide_eq_true c20
                        clear c20
                        by_cases c21 : ((rd_T32 x7_2 x10_2).f0) < (x8_1.length : Int)
                        · rw [if_pos c21] at H
                          have c21b0 : decide (((rd_T32 x7_2 x10_2).f0) < (x8_1.length : Int)) = true := decide_eq_true c21
                          clear c21
                          obtain ⟨y183, hy183⟩ : ∃ y_ : List (S32), y_ = (x7_2.set (x10_2 : Int).toNat (⟨(rd_T32 x7_2 x10_2).f0, (rd_T32 x7_2 x10_2).f1, wrap64 ((rd x8_1 ((rd_T32 x7_2 x10_2).f1)) - (rd x8_1 ((rd_T32 x7_2 x10_2).f0))), (rd_T32 x7_2 x10_2).f3⟩ : S32)) := ⟨_, rfl⟩
                          replace H : (spec_l91True.l1 k2 t165 y183 x8_1 (wrap64 (x10_2 + 1)) s0_0 x1001_1) = some (r1, r2, r3) := by first | (rw [hy183]; with_reducible exact H) | (have H2_ := (Option.bind_some _ _).symm.trans H; rw [hy183]; with_reducible exact H2_) | (have H2_ := (Option.bind_some _ _).symm.trans H; with_reducible exact H2_) | with_reducible exact H | (rw [hy183]; exact H) | exact H
                          have Ny183 := Aside0.mk hy183
                          clear hy183
                          have H' := Aside0.mk H
                          clear H
                          try go_wp2
                          have n0_ := Aside0.mk (Kd.R_drew HO_7.out)
                          have n1_ := Aside0.mk (Kd.R_drew HO_8.out)
                          have n2_ := Aside0.mk (IsS61.drew HI0.out)
                          have n3_ := Aside0.mk (keep_drew HK.out)
                          have n4_ := Aside0.mk (below_drew1 HB.out)
                          clear HO_7
                          clear HO_8
                          clear HI0
                          clear HK
                          clear HB
                          have HO_7 := n0_
                          have HO_8 := n1_
                          have HI0 := n2_
                          have HK := n3_
                          have HB := n4_
                          clear n0_ n1_ n2_ n3_ n4_
                          have p179 : 0 ≤ (x10_2 : Int) := of_decide_eq_true qq3
                          have q179 : x10_2 < (x7_2.length : Int) := of_decide_eq_true qq3
                          obtain ⟨ad179, e179, hx179_0, hx179_1, hx179_2, hx179_3⟩ := at_T32 (Kd.R_reads' HO_7.out).2.2 x10_2 p179 q179
                          cases e179
                          replace p179 := eq_true p179
                          replace q179 := eq_true q179
                          obtain ⟨Ao24, co24, eo24⟩ := Kd.R_slice HO_8.out
                          (first | subst eo24 | (injection eo24 with f1_ f2_ f3_; have f4_ := f1_.symm; have f5_ := f3_.symm; clear f1_ f2_ f3_; subst f4_; subst f5_))
                          have p180 : 0 ≤ (((rd_T32 x7_2 x10_2).f1) : Int) := of_decide_eq_true qq3
                          have q180 : ((rd_T32 x7_2 x10_2).f1) < (x8_1.length : Int) := of_decide_eq_true qq3
                          obtain ⟨ad180, e180, hx180_0⟩ := Kd.at_int (Kd.R_reads' HO_8.out).2.2 ((rd_T32 x7_2 x10_2).f1) p180 q180
                          cases e180
                          replace p180 := eq_true p180
                          replace q180 := eq_true q180
                          have p181 : 0 ≤ (x10_2 : Int) := of_decide_eq_true qq3
                          have q181 : x10_2 < (x7_2.length : Int) := of_decide_eq_true qq3
                          obtain ⟨ad181, e181, hx181_0, hx181_1, hx181_2, hx181_3⟩ := at_T32 (Kd.R_reads' HO_7.out).2.2 x10_2 p181 q181
                          obtain rfl : ad179 = ad181 := (by injection e181)
                          replace p181 := eq_true p181
                          replace q181 := eq_true q181
                          have p182 : 0 ≤ (((rd_T32 x7_2 x10_2).f0) : Int) := of_decide_eq_true qq3
                          have q182 : ((rd_T32 x7_2 x10_2).f0) < (x8_1.length : Int) := of_decide_eq_true qq3
                          obtain ⟨ad182, e182, hx182_0⟩ := Kd.at_int (Kd.R_reads' HO_8.out).2.2 ((rd_T32 x7_2 x10_2).f0) p182 q182
                          obtain rfl : ad180 = ad182 := (by injection e182)
                          replace p182 := eq_true p182
                          replace q182 := eq_true q182
                          have p22 : 0 ≤ (x10_2 : Int) := of_decide_eq_true qq3
                          have q22 : (x10_2 : Int) < ((x7_2.length : Int) : Int) := of_decide_eq_true qq3
                          obtain ⟨go22, co22, eo22, gb22, gl22, cl22, HG22⟩ := Kd.R_form HO_7.out (by omega)
                          (first | cases eo22 | (injection eo22 with ea_ en_ ec_; (first | subst ea_ | (injection ea_ with ea_; subst ea_)); subst ec_; clear en_))
                          have GB22 := Aside0.mk gb22
                          have GG22 := Aside0.mk HG22
                          clear gb22 gl22 HG22
                          (first | simp only [add_plain] at hx179_0 | skip)
                          (first | simp only [add_plain] at hx179_1 | skip)
                          (first | simp only [add_plain] at hx179_2 | skip)
                          (first | simp only [add_plain] at hx179_3 | skip)
                          (first | simp only [add_plain] at hx181_0 | skip)
                          (first | simp only [add_plain] at hx181_1 | skip)
                          (first | simp only [add_plain] at hx181_2 | skip)
                          (first | simp only [add_plain] at hx181_3 | skip)
                          obtain ⟨ce22, hcl22, hM22, hcc22, hfr22⟩ := Kd.R_elem HO_7.out z32 (x10_2 : Int) p22 q22
                          obtain rfl := k32_openM hM22
                          have hx22_0 : World.cell? _ ⟨go22, (x10_2 : Int).toNat * 4, none⟩ = some (.int .i64 ((rd_T32 x7_2 x10_2).f0)) := hcc22 0 _ rfl
                          have hx22_1 : World.cell? _ ⟨go22, (x10_2 : Int).toNat * 4 + 1, none⟩ = some (.int .i64 ((rd_T32 x7_2 x10_2).f1)) := hcc22 1 _ rfl
                          have hx22_2 : World.cell? _ ⟨go22, (x10_2 : Int).toNat * 4 + 2, none⟩ = some (.int .i64 ((rd_T32 x7_2 x10_2).f2)) := hcc22 2 _ rfl
                          have hx22_3 : World.cell? _ ⟨go22, (x10_2 : Int).toNat * 4 + 3, none⟩ = some (.int .i64 ((rd_T32 x7_2 x10_2).f3)) := hcc22 3 _ rfl
                          have hf22_0 : World.frozen? _ ⟨go22, (x10_2 : Int).toNat * 4, none⟩ = false := hfr22 0
                          have hf22_1 : World.frozen? _ ⟨go22, (x10_2 : Int).toNat * 4 + 1, none⟩ = false := hfr22 1
                          have hf22_2 : World.frozen? _ ⟨go22, (x10_2 : Int).toNat * 4 + 2, none⟩ = false := hfr22 2
                          have hf22_3 : World.frozen? _ ⟨go22, (x10_2 : Int).toNat * 4 + 3, none⟩ = false := hfr22 3
                          clear hcl22 hcc22 hfr22
                          (try clear hM22)
                          replace p22 := eq_true p22
                          replace q22 := eq_true q22
                          have HN0_go22 := Aside0.mk (show g ≠ go22 from by have h_ := IsS61.own_ne HI0.out HO_7.out (by decide); intro e_; exact h_ (by rw [e_]; rfl))
                          obtain ⟨ce25, hcl25, hM25, hcc25, hfr25⟩ := Kd.R_elem HO_7.out z32 (x10_2 : Int) (of_decide_eq_true qq3) (by have h_ : (x10_2 : Int) < ((x7_2.length : Int) : Int) := of_decide_eq_true qq3; first | exact h_ | (have e_ := (Kd.R_reads' HO_7.out).1; omega) | simpa using h_)
                          obtain rfl := k32_openM hM25
                          have HP25 := (Kd.R_seg HO_7.out (x10_2 : Int) (of_decide_eq_true qq3) (by have h_ : (x10_2 : Int) < ((x7_2.length : Int) : Int) := of_decide_eq_true qq3; first | exact h_ | (have e_ := (Kd.R_reads' HO_7.out).1; omega) | simpa using h_) (seg := [.int .i64 (wrap64 ((rd x8_1 ((rd_T32 x7_2 x10_2).f1)) - (rd x8_1 ((rd_T32 x7_2 x10_2).f0))))]) (j := 2) hcl25 hcc25 (show 3 ≤ 4 from by decide) (x' := (⟨(rd_T32 x7_2 x10_2).f0, (rd_T32 x7_2 x10_2).f1, wrap64 ((rd x8_1 ((rd_T32 x7_2 x10_2).f1)) - (rd x8_1 ((rd_T32 x7_2 x10_2).f0))), (rd_T32 x7_2 x10_2).f3⟩ : S32)) (k32_mkM _ _ _ (⟨(rd_T32 x7_2 x10_2).f0, (rd_T32 x7_2 x10_2).f1, wrap64 ((rd x8_1 ((rd_T32 x7_2 x10_2).f1)) - (rd x8_1 ((rd_T32 x7_2 x10_2).f0))), (rd_T32 x7_2 x10_2).f3⟩ : S32) ) (fun _ hk => hk)).1
                          rw [← Ny183.out] at HP25
                          have HQ25 := Aside0.mk HP25
                          clear hcl25 hcc25 hfr25 HP25
                          (try clear hM25)
                          refine start_ (n := 22) (S := fun w' => w'.cell? ⟨go22, ((x10_2).toNat * 4), none⟩ = some (.int .i64 ((rd_T32 x7_2 x10_2).f0)) ∧ w'.cell? ⟨go22, ((x10_2).toNat * 4) + 1, none⟩ = some (.int .i64 ((rd_T32 x7_2 x10_2).f1)) ∧ w'.cell? ⟨go22, ((x10_2).toNat * 4) + 2, none⟩ = some (.int .i64 ((rd_T32 x7_2 x10_2).f2)) ∧ w'.cell? ⟨go22, ((x10_2).toNat * 4) + 3, none⟩ = some (.int .i64 ((rd_T32 x7_2 x10_2).f3)) ∧ w'.cell? (ad180.add (((rd_T32 x7_2 x10_2).f1)).toNat) = some (.int .i64 (rd x8_1 ((rd_T32 x7_2 x10_2).f1))) ∧ w'.cell? ⟨go22, ((x10_2).toNat * 4), none⟩ = some (.int .i64 ((rd_T32 x7_2 x10_2).f0)) ∧ w'.cell? ⟨go22, ((x10_2).toNat * 4) + 1, none⟩ = some (.int .i64 ((rd_T32 x7_2 x10_2).f1)) ∧ w'.cell? ⟨go22, ((x10_2).toNat * 4) + 2, none⟩ = some (.int .i64 ((rd_T32 x7_2 x10_2).f2)) ∧ w'.cell? ⟨go22, ((x10_2).toNat * 4) + 3, none⟩ = some (.int .i64 ((rd_T32 x7_2 x10_2).f3)) ∧ w'.cell? (ad180.add (((rd_T32 x7_2 x10_2).f0)).toNat) = some (.int .i64 (rd x8_1 ((rd_T32 x7_2 x10_2).f0)))) (ds := [21]) #[false, false, false, false, false, false, false, false, false, false, false, false, false, false, false, false, false, false, false, false, false, false] (by kernel_rfl) rfl rfl ⟨hx179_0, hx179_1, hx179_2, hx179_3, hx180_0, hx181_0, hx181_1, hx181_2, hx181_3, hx182_0⟩ (fun hHeld => ?_); refine with_tabW spec_l91True.tab12 spec_l91True.bits12 (fun HT_ HW_ => ?_)
                          generalize wr.drew = w23 at HO_7 HO_8 HI0 HK HB GG22 HQ25 hf22_0 hf22_1 hf22_2 hf22_3 hx179_0 hx179_1 hx179_2 hx179_3 hx180_0 hx181_0 hx181_1 hx181_2 hx181_3 hx182_0 hx22_0 hx22_1 hx22_2 hx22_3 hHeld ⊢
                          refine pure_ (i := 0) (N := some 42) #[true, false, false, false, false, false, false, false, false, false, false, false, false, false, false, false, false, false, false, false, false, false] rfl rfl (any_of HT_.out (by kernel_rfl)) (fun _ _ _ h => h) (Or.inl ⟨by rfl, pA_⟩) pB_ ?_
                          refine pure_ (i := 1) (N := some 43) #[true, true, false, false, false, false, false, false, false, false, false, false, false, false, false, false, false, false, false, false, false, false] rfl rfl (any_of HT_.out (by kernel_rfl)) (fun _ _ _ h => h) (Or.inl ⟨by rfl, pA_⟩) pB_ ?_
                          refine pure_ (i := 2) (N := some 44) #[true, true, true, false, false, false, false, false, false, false, false, false, false, false, false, false, false, false, false, false, false, false] rfl rfl (any_of HT_.out (by kernel_rfl)) (fun _ _ _ h => h) (Or.inl ⟨by rfl, pA_⟩) pB_ ?_
                          refine pure_ (i := 3) (N := some 45) #[true, true, true, true, false, false, false, false, false, false, false, false, false, false, false, false, false, false, false, false, false, false] rfl rfl (any_of HT_.out (by kernel_rfl)) (fun _ _ _ h => h) (Or.inl ⟨by rfl, pA_⟩) pB_ ?_
                          refine pure_ (i := 4) (N := some 46) #[true, true, true, true, true, false, false, false, false, false, false, false, false, false, false, false, false, false, false, false, false, false] rfl rfl (any_of HT_.out (by kernel_rfl)) (fun _ _ _ h => h) (Or.inl ⟨by rfl, pA_⟩) pB_ ?_
                          refine pure_ (i := 5) (N := some 47) #[true, true, true, true, true, true, false, false, false, false, false, false, false, false, false, false, false, false, false, false, false, false] rfl rfl (any_of HT_.out (by kernel_rfl)) (fun _ _ _ h => h) (Or.inl ⟨by rfl, pA_⟩) pB_ ?_
                          refine pure_ (i := 6) (N := some 48) #[true, true, true, true, true, true, true, false, false, false, false, false, false, false, false, false, false, false, false, false, false, false] rfl rfl (any_of HT_.out (by kernel_rfl)) (fun _ _ _ h => h) (Or.inl ⟨by rfl, pA_⟩) pB_ ?_
                          refine pure_ (i := 10) (N := some 52) #[true, true, true, true, true, true, true, false, false, false, true, false, false, false, false, false, false, false, false, false, false, false] rfl rfl (any_of HT_.out (by kernel_rfl)) (fun _ _ _ h => h) (Or.inl ⟨by rfl, pA_⟩) pB_ ?_
                          refine pure_ (i := 11) (N := some 53) #[true, true, true, true, true, true, true, false, false, false, true, true, false, false, false, false, false, false, false, false, false, false] rfl rfl (any_of HT_.out (by kernel_rfl)) (fun _ _ _ h => h) (Or.inl ⟨by rfl, pA_⟩) pB_ ?_
                          refine pure_ (i := 12) (N := some 54) #[true, true, true, true, true, true, true, false, false, false, true, true, true, false, false, false, false, false, false, false, false, false] rfl rfl (any_of HT_.out (by kernel_rfl)) (fun _ _ _ h => h) (Or.inl ⟨by rfl, pA_⟩) pB_ ?_
                          refine pure_ (i := 13) (N := some 55) #[true, true, true, true, true, true, true, false, false, false, true, true, true, true, false, false, false, false, false, false, false, false] rfl rfl (any_of HT_.out (by kernel_rfl)) (fun _ _ _ h => h) (Or.inl ⟨by rfl, pA_⟩) pB_ ?_
                          refine pure_ (i := 14) (N := some 56) #[true, true, true, true, true, true, true, false, false, false, true, true, true, true, true, false, false, false, false, false, false, false] rfl rfl (any_of HT_.out (by kernel_rfl)) (fun _ _ _ h => h) (Or.inl ⟨by rfl, pA_⟩) pB_ ?_
                          refine take_ (i := 7) (N := some 49) (v := ?_) (a' := ?_) #[true, true, true, true, true, true, true, true, false, false, true, true, true, true, true, false, false, false, false, false, false, false] rfl rfl (take_ofW HT_.out HW_.out (by kernel_rfl)) (fun _ _ _ h => h) (Or.inl ⟨by rfl, ?_⟩) hHeld ?_ ?_
                          rotate_left
                          · rintro w' ⟨s0, s1, s2, s3, s4, s5, s6, s7, s8, s9⟩
                            go_simp
                            with_reducible rfl
                          rotate_left
                          · simp only [Act.put, List.setIfInBounds_toArray, List.set_cons_zero, List.set_cons_succ, i64_w, i32_w]
                            rfl
                          refine pure_ (i := 8) (N := some 50) #[true, true, true, true, true, true, true, true, true, false, true, true, true, true, true, false, false, false, false, false, false, false] rfl rfl (any_of HT_.out (by kernel_rfl)) (fun _ _ _ h => h) (Or.inl ⟨by rfl, pA_⟩) pB_ ?_
                          refine take_ (i := 9) (N := some 51) (v := ?_) (a' := ?_) #[true, true, true, true, true, true, true, true, true, true, true, true, true, true, true, false, false, false, false, false, false, false] rfl rfl (take_ofW HT_.out HW_.out (by kernel_rfl)) (fun _ _ _ h => h) (Or.inl ⟨by rfl, ?_⟩) hHeld ?_ ?_
                          rotate_left
                          · rintro w' ⟨s0, s1, s2, s3, s4, s5, s6, s7, s8, s9⟩
                            go_simp
                            with_reducible rfl
                          rotate_left
                          · simp only [Act.put, List.setIfInBounds_toArray, List.set_cons_zero, List.set_cons_succ, i64_w, i32_w]
                            rfl
                          refine take_ (i := 15) (N := some 57) (v := ?_) (a' := ?_) #[true, true, true, true, true, true, true, true, true, true, true, true, true, true, true, true, false, false, false, false, false, false] rfl rfl (take_ofW HT_.out HW_.out (by kernel_rfl)) (fun _ _ _ h => h) (Or.inl ⟨by rfl, ?_⟩) hHeld ?_ ?_
                          rotate_left
                          · rintro w' ⟨s0, s1, s2, s3, s4, s5, s6, s7, s8, s9⟩
                            go_simp
                            with_reducible rfl
                          rotate_left
                          · simp only [Act.put, List.setIfInBounds_toArray, List.set_cons_zero, List.set_cons_succ, i64_w, i32_w]
                            rfl
                          refine pure_ (i := 16) (N := some 58) #[true, true, true, true, true, true, true, true, true, true, true, true, true, true, true, true, true, false, false, false, false, false] rfl rfl (any_of HT_.out (by kernel_rfl)) (fun _ _ _ h => h) (Or.inl ⟨by rfl, pA_⟩) pB_ ?_
                          refine take_ (i := 17) (N := some 59) (v := ?_) (a' := ?_) #[true, true, true, true, true, true, true, true, true, true, true, true, true, true, true, true, true, true, false, false, false, false] rfl rfl (take_ofW HT_.out HW_.out (by kernel_rfl)) (fun _ _ _ h => h) (Or.inl ⟨by rfl, ?_⟩) hHeld ?_ ?_
                          rotate_left
                          · rintro w' ⟨s0, s1, s2, s3, s4, s5, s6, s7, s8, s9⟩
                            go_simp
                            with_reducible rfl
                          rotate_left
                          · simp only [Act.put, List.setIfInBounds_toArray, List.set_cons_zero, List.set_cons_succ, i64_w, i32_w]
                            rfl
                          refine pure_ (i := 18) (N := some 60) #[true, true, true, true, true, true, true, true, true, true, true, true, true, true, true, true, true, true, true, false, false, false] rfl rfl (any_of HT_.out (by kernel_rfl)) (fun _ _ _ h => h) (Or.inl ⟨by rfl, pA_⟩) pB_ ?_
                          refine pure_ (i := 19) (N := some 61) #[true, true, true, true, true, true, true, true, true, true, true, true, true, true, true, true, true, true, true, true, false, false] rfl rfl (any_of HT_.out (by kernel_rfl)) (fun _ _ _ h => h) (Or.inl ⟨by rfl, pA_⟩) pB_ ?_
                          refine pure_ (i := 20) (N := some 62) #[true, true, true, true, true, true, true, true, true, true, true, true, true, true, true, true, true, true, true, true, true, false] rfl rfl (any_of HT_.out (by kernel_rfl)) (fun _ _ _ h => h) (Or.inl ⟨by rfl, pA_⟩) pB_ ?_
                          refine last_ (i := 21) (N := none) #[true, true, true, true, true, true, true, true, true, true, true, true, true, true, true, true, true, true, true, true, true, true] rfl rfl (one_of HT_.out (by kernel_rfl)) (by decide) (fun K hK => ?_)
                          refine skip_ (w1 := ?_) (by rfl) rfl ?_ ?_
                          rotate_left
                          · go_simp
                            rfl
                          refine hK.out _ _ ?_
                          clear hK K
                          refine done_ (done_of HT_.out (by kernel_rfl)) ?_
                          try go_wp2
                          (try simp only [← hl7_2])
                          go_roundg k2
                          case measure => have := HK1.out; have := HK2.out; omega
                          case rel => exact ⟨(y183), (wrap64 (x10_2 + 1)), qq14, H', ⟨qq84⟩, ⟨qq65 HQ25.out⟩, ⟨by (try simp only [hl7_2]); (with_reducible repeat (first | apply Kd.R_alloc | apply Kd.R_drewN | apply Kd.R_drew)); exact Kd.R_mono (Kd.R_far (p := ⟨go22, (x10_2 : Int).toNat * 4 + 2, none⟩) (Kd.R_types HO_8.out GG22.out (by decide)) (fun _ hk => hk.2) (.int .i64 (wrap64 ((rd x8_1 ((rd_T32 x7_2 x10_2).f1)) - (rd x8_1 ((rd_T32 x7_2 x10_2).f0)))))) (fun _ hk => trivial)⟩, ⟨qq25 HI0.out HN0_go22.out⟩, ⟨qq28 HK.out GB22.out⟩, ⟨qq78 HB.out HL.out GB22.out HI0.out⟩⟩
                        · rw [if_neg c21] at H
                          exact absurd H (by simp)
                      · rw [if_neg c20] at H
                        exact absurd H (by simp)
                    · rw [if_neg c19] at H
                      exact absurd H (by simp)
                  · rw [if_neg c18] at H
                    exact absurd H (by simp)
                · rw [if_neg c17] at H
                  exact absurd H (by simp)
              · rw [if_neg c16] at H
                have c16b0 : decide (x10_2 < (x7_2.length : Int)) = false := decide_eq_false c16
                clear c16
                have HC26 := Aside0.mk H
                clear H
                go_upto_region 13 with (fail)
                go_cut [70] (fun v70 wc => ∃ (kq : Nat) (x70_25 : Bool) (x1001_25 : Int), v70 = .bool x70_25 ∧ Aside0 (spec_l91True.j2 kq t165 x7_2 x70_25 s0_0 x1001_25 = some (r1, r2, r3)) ∧ Aside0 (kq ≤ k2) ∧ Aside0 (Kd.R k32 32 wc w.heap.size (fun _ => True) (.slice Ao7 x7_2.length co7) x7_2) ∧ Aside0 (IsS61 w0 wc g s0_0 x1001_25) ∧ Aside0 (KeepBut w wc g none) ∧ Aside0 (Below w0.heap.size w0 wc))
                case first =>
                  have H := HC26.out
                  clear HC26
                  by_cases c27 : (x7_2.length : Int) > 0
                  · rw [if_pos c27] at H
                    have c27b0 : decide (0 < (x7_2.length : Int)) = true := decide_eq_true c27
                    have c27b1 : decide (0 < x7_2.length) = true := decide_eq_true (by omega)
                    clear c27
                    (first | rw [c27b0] | (simp only [i64_w, i32_w]; rw [c27b0]) | skip)
                    replace H := Option.bind_eq_some_iff.mp H
                    obtain ⟨⟨t184, t185⟩, A280, H⟩ := H
                    replace H : (spec_l91True.j2 k2 t165 x7_2 (t184 == 0) s0_0 t185) = some (r1, r2, r3) := H
                    have A28 := Aside0.mk A280
                    clear A280
                    have H' := Aside0.mk H
                    clear H
                    go_wp2_with (first | (go_at_call 36; (with_reducible refine (spec_l6Rd_pick.calls k2 g s0_0 x1001_1 2 t184 t185 w0 _ ?side1 ?side2 A28.out).mono ?_); (case side1 => exact qq9); (case side2 => exact qq8); rintro e w29 ⟨rfl, hi, hb, hk⟩; have n0_ := Aside0.mk (Kd.R_mono (Kd.R_keep (IsS61.apart (show IsS61 w0 _ g s0_0 x1001_1 from by repeat (first | (with_reducible first | exact HI0.out | apply IsS61.alloc | apply IsS61.drewN | apply IsS61.drew | apply IsS61.set_1) | exact HI0.out)) (qq2 HO_7.out) (by decide)) hk (fun _ h => h.2)) (fun _ h => h.1)); have n1_ := Aside0.mk (Kd.R_mono (Kd.R_keep (IsS61.apart (show IsS61 w0 _ g s0_0 x1001_1 from by repeat (first | (with_reducible first | exact HI0.out | apply IsS61.alloc | apply IsS61.drewN | apply IsS61.drew | apply IsS61.set_1) | exact HI0.out)) (qq2 HO_8.out) (by decide)) hk (fun _ h => h.2)) (fun _ h => h.1)); have n2_ := Aside0.mk (KeepBut.trans qq6 hk (.inl rfl)); have n3_ := Aside0.mk (hb); have n4_ := Aside0.mk (hi); clear HO_7; clear HO_8; clear HK; clear HB; clear HI0; have HO_7 := n0_; have HO_8 := n1_; have HK := n2_; have HB := n3_; have HI0 := n4_; clear n0_ n1_ n2_ n3_ n4_; (try clear hb); (try clear hb2); (try clear hk); (try clear hi)))
                    go_meet
                    case rel => exact ⟨_, ((t184 == 0)), (t185), qq14, H', ⟨qq50 HK1.out HK2.out⟩, ⟨qq65 HO_7.out⟩, ⟨qq9⟩, ⟨qq6⟩, ⟨qq8⟩⟩
                  · rw [if_neg c27] at H
                    have c27b0 : decide (0 < (x7_2.length : Int)) = false := decide_eq_false c27
                    have c27b1 : decide (0 < x7_2.length) = false := decide_eq_false (by omega)
                    clear c27
                    (first | rw [c27b0] | (simp only [i64_w, i32_w]; rw [c27b0]) | skip)
                    have H' := Aside0.mk H
                    clear H
                    go_wp2
                    go_meet
                    case rel => exact ⟨_, (false), (x1001_1), qq14, H', ⟨qq50 HK1.out HK2.out⟩, ⟨qq65 HO_7.out⟩, ⟨qq9⟩, ⟨qq6⟩, ⟨qq8⟩⟩
                case rest =>
                  clear HC26
                  try clear c1
                  try clear p1
                  try clear q1
                  try clear hx1
                  try clear c2
                  try clear p2
                  try clear q2
                  try clear hx2
                  try clear hf2
                  try clear c3
                  try clear c4
                  try clear c5
                  try clear p6
                  try clear c11
                  try clear c11b0
                  try clear c13
                  try clear c16
                  try clear c16b0
                  try clear c17
                  try clear c17b0
                  try clear p17
                  try clear q17
                  try clear hx17
                  try clear c18
                  try clear c18b0
                  try clear p18
                  try clear q18
                  try clear hx18
                  try clear c19
                  try clear c19b0
                  try clear c20
                  try clear c20b0
                  try clear c21
                  try clear c21b0
                  try clear c22
                  try clear p22
                  try clear q22
                  try clear hx22
                  try clear hf22
                  try clear c24
                  try clear c25
                  try clear c27
                  try clear c27b0
                  try clear c27b1
                  try clear hx179_0
                  try clear hx179_1
                  try clear hx179_2
                  try clear hx179_3
                  try clear hx180_0
                  try clear hx181_0
                  try clear hx181_1
                  try clear hx181_2
                  try clear hx181_3
                  try clear hx182_0
                  try clear hx22_0
                  try clear hx22_1
                  try clear hx22_2
                  try clear hx22_3
                  try clear p179
                  try clear p180
                  try clear p181
                  try clear p182
                  try clear p2
                  try clear p22
                  try clear p6
                  try clear q179
                  try clear q180
                  try clear q181
                  try clear q182
                  try clear q22
                  obtain ⟨kq, x70_25, x1001_25, rfl, HA, HJ25, HO_7, HI0, HK, HB⟩ := hcut
                  cases kq with
                  | zero => exact absurd HA.out (by simp [spec_l91True.j2])
                  | succ kj25 =>
                    have H := HA.out
                    clear HA
                    simp only [spec_l91True.j2] at H
                    by_cases c30 : x70_25 = true
                    · subst c30
                      have H1 : ((spec_l6Rd_pick.f kj25 s0_0 x1001_25 (x7_2.length : Int)).bind fun bt186 => (if 0 ≤ bt186.1 then (if bt186.1 < (x7_2.length : Int) then ((spec_l6Rd_pick.f kj25 s0_0 bt186.2 9).bind fun bt189 => (some (t165, (x7_2.set (bt186.1 : Int).toNat (⟨(rd_T32 x7_2 bt186.1).f0, (rd_T32 x7_2 bt186.1).f1, wrap64 ((wrap64 (((rd_T32 x7_2 bt186.1).f2) + 1)) + bt189.1), (rd_T32 x7_2 bt186.1).f3⟩ : S32)), bt189.2))) else (none)) else (none))) = some (r1, r2, r3) := by rw [if_pos rfl] at H; exact H
                      clear H
                      have H := H1
                      clear H1
                      replace H := Option.bind_eq_some_iff.mp H
                      obtain ⟨⟨t186, t187⟩, A310, H⟩ := H
                      replace H : (if 0 ≤ t186 then (if t186 < (x7_2.length : Int) then ((spec_l6Rd_pick.f kj25 s0_0 t187 9).bind fun bt189 => (some (t165, (x7_2.set (t186 : Int).toNat (⟨(rd_T32 x7_2 t186).f0, (rd_T32 x7_2 t186).f1, wrap64 ((wrap64 (((rd_T32 x7_2 t186).f2) + 1)) + bt189.1), (rd_T32 x7_2 t186).f3⟩ : S32)), bt189.2))) else (none)) else (none)) = some (r1, r2, r3) := H
                      have A31 := Aside0.mk A310
                      clear A310
                      by_cases c32 : 0 ≤ t186
                      · rw [if_pos c32] at H
                        have c32b0 : decide (0 ≤ t186) = true := decide_eq_true c32
                        clear c32
                        by_cases c33 : t186 < (x7_2.length : Int)
                        · rw [if_pos c33] at H
                          have c33b0 : decide (t186 < (x7_2.length : Int)) = true := decide_eq_true c33
                          clear c33
                          replace H := Option.bind_eq_some_iff.mp H
                          obtain ⟨⟨t189, t190⟩, A340, H⟩ := H
                          replace H : (some (t165, (x7_2.set (t186 : Int).toNat (⟨(rd_T32 x7_2 t186).f0, (rd_T32 x7_2 t186).f1, wrap64 ((wrap64 (((rd_T32 x7_2 t186).f2) + 1)) + t189), (rd_T32 x7_2 t186).f3⟩ : S32)), t190)) = some (r1, r2, r3) := H
                          have A34 := Aside0.mk A340
                          clear A340
                          obtain ⟨y191, hy191⟩ : ∃ y_ : List (S32), y_ = (x7_2.set (t186 : Int).toNat (⟨(rd_T32 x7_2 t186).f0, (rd_T32 x7_2 t186).f1, wrap64 ((wrap64 (((rd_T32 x7_2 t186).f2) + 1)) + t189), (rd_T32 x7_2 t186).f3⟩ : S32)) := ⟨_, rfl⟩
                          replace H : (some (t165, y191, t190)) = some (r1, r2, r3) := by first | (rw [hy191]; with_reducible exact H) | (have H2_ := (Option.bind_some _ _).symm.trans H; rw [hy191]; with_reducible exact H2_) | (have H2_ := (Option.bind_some _ _).symm.trans H; with_reducible exact H2_) | with_reducible exact H | (rw [hy191]; exact H) | exact H
                          have Ny191 := Aside0.mk hy191
                          clear hy191
                          simp only [Option.some.injEq, Prod.mk.injEq] at H
                          obtain ⟨rfl, rfl, rfl⟩ := H
                          try go_wp2_with (first | ((with_reducible refine gate_callee (f := 36) rfl ?_); refine goesL_ (some 74) rfl rfl Try.func36 (by kernel_rfl) rfl #[.pointer (some ⟨g, 0, none⟩), .int .i64 (x7_2.length : Int)] rfl qq5 ?_; (with_reducible refine (spec_l6Rd_pick.calls kj25 g s0_0 x1001_25 (x7_2.length : Int) t186 t187 w0 _ ?side1 ?side2 A31.out).mono ?_); (case side1 => exact qq9); (case side2 => exact qq8); rintro e w36 ⟨rfl, hi, hb, hk⟩; refine ⟨_, rfl, ?_⟩; have n0_ := Aside0.mk (Kd.R_mono (Kd.R_keep (IsS61.apart (show IsS61 w0 _ g s0_0 x1001_25 from by repeat (first | (with_reducible first | exact HI0.out | apply IsS61.alloc | apply IsS61.drewN | apply IsS61.drew | apply IsS61.set_1) | exact HI0.out)) (qq2 HO_7.out) (by decide)) hk (fun _ h => h.2)) (fun _ h => h.1)); have n1_ := Aside0.mk (KeepBut.trans qq6 hk (.inl rfl)); have n2_ := Aside0.mk (hb); have n3_ := Aside0.mk (hi); clear HO_7; clear HK; clear HB; clear HI0; have HO_7 := n0_; have HK := n1_; have HB := n2_; have HI0 := n3_; clear n0_ n1_ n2_ n3_; (try clear hb); (try clear hb2); (try clear hk); (try clear hi)))
                          have n0_ := Aside0.mk (Kd.R_drew HO_7.out)
                          have n1_ := Aside0.mk (IsS61.drew HI0.out)
                          have n2_ := Aside0.mk (keep_drew HK.out)
                          have n3_ := Aside0.mk (below_drew1 HB.out)
                          clear HO_7
                          clear HI0
                          clear HK
                          clear HB
                          have HO_7 := n0_
                          have HI0 := n1_
                          have HK := n2_
                          have HB := n3_
                          clear n0_ n1_ n2_ n3_
                          have p188 : 0 ≤ (t186 : Int) := of_decide_eq_true qq3
                          have q188 : t186 < (x7_2.length : Int) := of_decide_eq_true qq3
                          obtain ⟨ad188, e188, hx188_0, hx188_1, hx188_2, hx188_3⟩ := at_T32 (Kd.R_reads' HO_7.out).2.2 t186 p188 q188
                          cases e188
                          replace p188 := eq_true p188
                          replace q188 := eq_true q188
                          refine start_ (n := 14) (S := fun w' => w'.cell? (ad188.add ((t186).toNat * 4)) = some (.int .i64 ((rd_T32 x7_2 t186).f0)) ∧ w'.cell? ⟨(ad188.add ((t186).toNat * 4)).block, (ad188.add ((t186).toNat * 4)).off + 1, none⟩ = some (.int .i64 ((rd_T32 x7_2 t186).f1)) ∧ w'.cell? ⟨(ad188.add ((t186).toNat * 4)).block, (ad188.add ((t186).toNat * 4)).off + 2, none⟩ = some (.int .i64 ((rd_T32 x7_2 t186).f2)) ∧ w'.cell? ⟨(ad188.add ((t186).toNat * 4)).block, (ad188.add ((t186).toNat * 4)).off + 3, none⟩ = some (.int .i64 ((rd_T32 x7_2 t186).f3))) (ds := [13]) #[false, false, false, false, false, false, false, false, false, false, false, false, false, false] (by kernel_rfl) rfl rfl ⟨hx188_0, hx188_1, hx188_2, hx188_3⟩ (fun hHeld => ?_); refine with_tabW spec_l91True.tab15 spec_l91True.bits15 (fun HT_ HW_ => ?_)
                          generalize w36.drew = w37 at HO_7 HI0 HK HB hx188_0 hx188_1 hx188_2 hx188_3 hHeld ⊢
                          refine pure_ (i := 0) (N := some 75) #[true, false, false, false, false, false, false, false, false, false, false, false, false, false] rfl rfl (any_of HT_.out (by kernel_rfl)) (fun _ _ _ h => h) (Or.inl ⟨by rfl, pA_⟩) pB_ ?_
                          refine pure_ (i := 1) (N := some 76) #[true, true, false, false, false, false, false, false, false, false, false, false, false, false] rfl rfl (any_of HT_.out (by kernel_rfl)) (fun _ _ _ h => h) (Or.inl ⟨by rfl, pA_⟩) pB_ ?_
                          refine pure_ (i := 2) (N := some 77) #[true, true, true, false, false, false, false, false, false, false, false, false, false, false] rfl rfl (any_of HT_.out (by kernel_rfl)) (fun _ _ _ h => h) (Or.inl ⟨by rfl, pA_⟩) pB_ ?_
                          refine pure_ (i := 3) (N := some 78) #[true, true, true, true, false, false, false, false, false, false, false, false, false, false] rfl rfl (any_of HT_.out (by kernel_rfl)) (fun _ _ _ h => h) (Or.inl ⟨by rfl, pA_⟩) pB_ ?_
                          refine pure_ (i := 4) (N := some 79) #[true, true, true, true, true, false, false, false, false, false, false, false, false, false] rfl rfl (any_of HT_.out (by kernel_rfl)) (fun _ _ _ h => h) (Or.inl ⟨by rfl, pA_⟩) pB_ ?_
                          refine pure_ (i := 5) (N := some 80) #[true, true, true, true, true, true, false, false, false, false, false, false, false, false] rfl rfl (any_of HT_.out (by kernel_rfl)) (fun _ _ _ h => h) (Or.inl ⟨by rfl, pA_⟩) pB_ ?_
                          refine pure_ (i := 8) (N := some 83) #[true, true, true, true, true, true, false, false, true, false, false, false, false, false] rfl rfl (any_of HT_.out (by kernel_rfl)) (fun _ _ _ h => h) (Or.inl ⟨by rfl, pA_⟩) pB_ ?_
                          refine take_ (i := 6) (N := some 81) (v := ?_) (a' := ?_) #[true, true, true, true, true, true, true, false, true, false, false, false, false, false] rfl rfl (take_ofW HT_.out HW_.out (by kernel_rfl)) (fun _ _ _ h => h) (Or.inl ⟨by rfl, ?_⟩) hHeld ?_ ?_
                          rotate_left
                          · rintro w' ⟨s0, s1, s2, s3⟩
                            go_simp
                            with_reducible rfl
                          rotate_left
                          · simp only [Act.put, List.setIfInBounds_toArray, List.set_cons_zero, List.set_cons_succ, i64_w, i32_w]
                            rfl
                          refine pure_ (i := 7) (N := some 82) #[true, true, true, true, true, true, true, true, true, false, false, false, false, false] rfl rfl (any_of HT_.out (by kernel_rfl)) (fun _ _ _ h => h) (Or.inl ⟨by rfl, pA_⟩) pB_ ?_
                          refine one_ (i := 9) (N := some 84) #[true, true, true, true, true, true, true, true, true, true, false, false, false, false] rfl rfl (one_of HT_.out (by kernel_rfl)) (by decide) (fun K hK => ?_)
                          refine goes_ Try.func36 (by kernel_rfl) rfl #[.pointer (some ⟨g, 0, none⟩), .int .i64 9] (by rfl) rfl rfl qq5 ?_
                          with_reducible refine (spec_l6Rd_pick.calls kj25 g s0_0 t187 9 t189 t190 w0 _ ?side1 ?side2 A34.out).mono ?_
                          (case side1 => exact qq9)
                          (case side2 => exact qq8)
                          rintro e w38 ⟨rfl, hi, hb, hk⟩
                          have HS0_ := keep_cell hk (hHeld.1) qq30
                          have HS1_ := keep_cell hk (hHeld.2.1) qq30
                          have HS2_ := keep_cell hk (hHeld.2.2.1) qq30
                          have HS3_ := keep_cell hk (hHeld.2.2.2) qq30
                          refine ⟨_, rfl, ?_⟩
                          have n0_ := Aside0.mk (Kd.R_mono (Kd.R_keep (IsS61.apart (show IsS61 w0 _ g s0_0 t187 from by repeat (first | (with_reducible first | exact HI0.out | apply IsS61.alloc | apply IsS61.drewN | apply IsS61.drew | apply IsS61.set_1) | exact HI0.out)) (qq2 HO_7.out) (by decide)) hk (fun _ h => h.2)) (fun _ h => h.1))
                          have n1_ := Aside0.mk (KeepBut.trans qq6 hk (.inl rfl))
                          have n2_ := Aside0.mk (hb)
                          have n3_ := Aside0.mk (hi)
                          clear HO_7
                          clear HK
                          clear HB
                          clear HI0
                          have HO_7 := n0_
                          have HK := n1_
                          have HB := n2_
                          have HI0 := n3_
                          clear n0_ n1_ n2_ n3_
                          (try clear hb)
                          (try clear hb2)
                          (try clear hk)
                          (try clear hi)
                          have p35 : 0 ≤ (t186 : Int) := of_decide_eq_true qq3
                          have q35 : (t186 : Int) < ((x7_2.length : Int) : Int) := of_decide_eq_true qq3
                          obtain ⟨go35, co35, eo35, gb35, gl35, cl35, HG35⟩ := Kd.R_form HO_7.out (by omega)
                          (first | cases eo35 | (injection eo35 with ea_ en_ ec_; (first | subst ea_ | (injection ea_ with ea_; subst ea_)); subst ec_; clear en_))
                          have GB35 := Aside0.mk gb35
                          have GG35 := Aside0.mk HG35
                          clear gb35 gl35 HG35
                          (first | simp only [add_plain] at hx188_0 | skip)
                          (first | simp only [add_plain] at hx188_1 | skip)
                          (first | simp only [add_plain] at hx188_2 | skip)
                          (first | simp only [add_plain] at hx188_3 | skip)
                          obtain ⟨ce35, hcl35, hM35, hcc35, hfr35⟩ := Kd.R_elem HO_7.out z32 (t186 : Int) p35 q35
                          obtain rfl := k32_openM hM35
                          have hx35_0 : World.cell? _ ⟨go35, (t186 : Int).toNat * 4, none⟩ = some (.int .i64 ((rd_T32 x7_2 t186).f0)) := hcc35 0 _ rfl
                          have hx35_1 : World.cell? _ ⟨go35, (t186 : Int).toNat * 4 + 1, none⟩ = some (.int .i64 ((rd_T32 x7_2 t186).f1)) := hcc35 1 _ rfl
                          have hx35_2 : World.cell? _ ⟨go35, (t186 : Int).toNat * 4 + 2, none⟩ = some (.int .i64 ((rd_T32 x7_2 t186).f2)) := hcc35 2 _ rfl
                          have hx35_3 : World.cell? _ ⟨go35, (t186 : Int).toNat * 4 + 3, none⟩ = some (.int .i64 ((rd_T32 x7_2 t186).f3)) := hcc35 3 _ rfl
                          have hf35_0 : World.frozen? _ ⟨go35, (t186 : Int).toNat * 4, none⟩ = false := hfr35 0
                          have hf35_1 : World.frozen? _ ⟨go35, (t186 : Int).toNat * 4 + 1, none⟩ = false := hfr35 1
                          have hf35_2 : World.frozen? _ ⟨go35, (t186 : Int).toNat * 4 + 2, none⟩ = false := hfr35 2
                          have hf35_3 : World.frozen? _ ⟨go35, (t186 : Int).toNat * 4 + 3, none⟩ = false := hfr35 3
                          clear hcl35 hcc35 hfr35
                          (try clear hM35)
                          replace p35 := eq_true p35
                          replace q35 := eq_true q35
                          have HN0_go35 := Aside0.mk (show g ≠ go35 from by have h_ := IsS61.own_ne HI0.out HO_7.out (by decide); intro e_; exact h_ (by rw [e_]; rfl))
                          obtain ⟨ce39, hcl39, hM39, hcc39, hfr39⟩ := Kd.R_elem HO_7.out z32 (t186 : Int) (of_decide_eq_true qq3) (by have h_ : (t186 : Int) < ((x7_2.length : Int) : Int) := of_decide_eq_true qq3; first | exact h_ | (have e_ := (Kd.R_reads' HO_7.out).1; omega) | simpa using h_)
                          obtain rfl := k32_openM hM39
                          have HP39 := (Kd.R_seg HO_7.out (t186 : Int) (of_decide_eq_true qq3) (by have h_ : (t186 : Int) < ((x7_2.length : Int) : Int) := of_decide_eq_true qq3; first | exact h_ | (have e_ := (Kd.R_reads' HO_7.out).1; omega) | simpa using h_) (seg := [.int .i64 (wrap64 ((wrap64 (((rd_T32 x7_2 t186).f2) + 1)) + t189))]) (j := 2) hcl39 hcc39 (show 3 ≤ 4 from by decide) (x' := (⟨(rd_T32 x7_2 t186).f0, (rd_T32 x7_2 t186).f1, wrap64 ((wrap64 (((rd_T32 x7_2 t186).f2) + 1)) + t189), (rd_T32 x7_2 t186).f3⟩ : S32)) (k32_mkM _ _ _ (⟨(rd_T32 x7_2 t186).f0, (rd_T32 x7_2 t186).f1, wrap64 ((wrap64 (((rd_T32 x7_2 t186).f2) + 1)) + t189), (rd_T32 x7_2 t186).f3⟩ : S32) ) (fun _ hk => hk)).1
                          rw [← Ny191.out] at HP39
                          have HQ39 := Aside0.mk HP39
                          clear hcl39 hcc39 hfr39 HP39
                          (try clear hM39)
                          refine hK.out _ _ ⟨HS0_, HS1_, HS2_, HS3_⟩ (fun hHeld => ?_)
                          clear hK K
                          refine norm_ (a' := ?_) ?_ ?_
                          rotate_left
                          · show Act.put _ (some 84) _ = _
                            simp only [Act.put, List.setIfInBounds_toArray, List.set_cons_zero, List.set_cons_succ, i64_w, i32_w]
                            rfl
                          refine pure_ (i := 10) (N := some 85) #[true, true, true, true, true, true, true, true, true, true, true, false, false, false] rfl rfl (any_of HT_.out (by kernel_rfl)) (fun _ _ _ h => h) (Or.inl ⟨by rfl, pA_⟩) pB_ ?_
                          refine pure_ (i := 11) (N := some 86) #[true, true, true, true, true, true, true, true, true, true, true, true, false, false] rfl rfl (any_of HT_.out (by kernel_rfl)) (fun _ _ _ h => h) (Or.inl ⟨by rfl, pA_⟩) pB_ ?_
                          refine pure_ (i := 12) (N := some 87) #[true, true, true, true, true, true, true, true, true, true, true, true, true, false] rfl rfl (any_of HT_.out (by kernel_rfl)) (fun _ _ _ h => h) (Or.inl ⟨by rfl, pA_⟩) pB_ ?_
                          refine last_ (i := 13) (N := none) #[true, true, true, true, true, true, true, true, true, true, true, true, true, true] rfl rfl (one_of HT_.out (by kernel_rfl)) (by decide) (fun K hK => ?_)
                          refine skip_ (w1 := ?_) (by rfl) rfl ?_ ?_
                          rotate_left
                          · go_simp
                            rfl
                          refine hK.out _ _ ?_
                          clear hK K
                          refine done_ (done_of HT_.out (by kernel_rfl)) ?_
                          try go_wp2
                          go_ret2
                          exact ⟨_, qq11, qq2 HQ39.out, qq25 HI0.out HN0_go35.out, qq78 HB.out HL.out GB35.out HI0.out, qq28 HK.out GB35.out⟩
                        · rw [if_neg c33] at H
                          exact absurd H (by simp)
                      · rw [if_neg c32] at H
                        exact absurd H (by simp)
                    · replace c30 := Bool.eq_false_iff.mpr c30
                      subst c30
                      have H1 : (some (t165, x7_2, x1001_25)) = some (r1, r2, r3) := by rw [if_neg (show ¬ (false = true) by decide)] at H; exact H
                      clear H
                      have H := H1
                      clear H1
                      simp only [Option.some.injEq, Prod.mk.injEq] at H
                      obtain ⟨rfl, rfl, rfl⟩ := H
                      go_wp2
                      go_ret2
                      exact ⟨_, qq11, qq2 HO_7.out, qq9, qq8, qq6⟩
  · replace c5 := Bool.eq_false_iff.mpr c5
    subst c5
    have H1 : (some (t165, t166, t169)) = some (r1, r2, r3) := by rw [if_neg (show ¬ (false = true) by decide)] at H; exact H
    clear H
    have H := H1
    clear H1
    simp only [Option.some.injEq, Prod.mk.injEq] at H
    obtain ⟨rfl, rfl, rfl⟩ := H
    go_enter Try.func24, Try.ntmps24
    go_wp2_with (first | ((with_reducible refine gate_callee (f := 44) rfl ?_); refine goesL_ (some 15) rfl rfl Try.func44 (by kernel_rfl) rfl #[.pointer (some ⟨g, 0, none⟩), .int .i64 a1] rfl qq5 ?_; (with_reducible refine (spec_l91Net.calls k g s0_0 s0_1 a1 t165 t166 t169 w0 _ ?side1 ?side2 A3.out).mono ?_); (case side1 => exact qq9); (case side2 => exact qq8); rintro e w40 ⟨v167, rfl, ho0, hi, hb, hk⟩; refine ⟨_, rfl, ?_⟩; have n0_ := Aside0.mk (Kd.R_lower ho0 (keep_size (w := w) (g := g) (row := none) qq6)); have n1_ := Aside0.mk (KeepBut.trans qq6 hk (.inl rfl)); have n2_ := Aside0.mk (hb); have n3_ := Aside0.mk (hi); clear HK; clear HB; clear HI0; have HO168 := n0_; have HK := n1_; have HB := n2_; have HI0 := n3_; clear n0_ n1_ n2_ n3_; (try clear hb); (try clear hb2); (try clear hk); (try clear hi); (try clear ho0); obtain ⟨Ao41, co41, eo41⟩ := Kd.R_slice HO168.out; subst eo41) | ((with_reducible refine gate_callee (f := 45) rfl ?_); refine goesL_ (some 20) rfl rfl Try.func45 (by kernel_rfl) rfl #[.int .i64 t165, .slice Ao41 t166.length co41] rfl qq5 ?_; (with_reducible refine (spec_NetValid.calls k t165 _ _ t166 false _ ?side1 ?side2 A4.out).mono ?_); (case side1 => exact qq12 HO168.out); (case side2 => exact qq52 HO168.out); rintro e w42 ⟨rfl, hb⟩; refine ⟨_, rfl, ?_⟩; have n0_ := Aside0.mk (Kd.R_below (qq2 HO168.out) hb); have n1_ := Aside0.mk (IsS61.below qq9 hb); have n2_ := Aside0.mk (KeepBut.trans qq6 (KeepBut.of_below hb g none) (.inl rfl)); have n3_ := Aside0.mk (below_step qq8 hb); clear HO168; clear HI0; clear HK; clear HB; have HO168 := n0_; have HI0 := n1_; have HK := n2_; have HB := n3_; clear n0_ n1_ n2_ n3_; (try clear hb); (try clear hb2); (try clear hk); (try clear hi)))
    go_ret2
    exact ⟨_, qq11, qq2 HO168.out, qq9, qq8, qq6⟩

end Go.Proofs.Ytmcfhmflncghiaa.Q
namespace Go.Proofs.Ytmcfhmflncghiaa.Q
open Go.RowKit Go.Proofs.YtmcfhmflncghiaaW.PrintWords Go.Proofs.YtmcfhmflncghiaaW.PrintLast Go.Proofs.YtmcfhmflncghiaaW.PrintMore
attribute [local go_sem] max2_int min2_int max_two min_two max_three min_three max_four min_four
set_option linter.unusedVariables false
set_option linter.unusedSimpArgs false

/-! ### spec_l6Open: function 25 -/
def spec_l6Open.f (l0 : List Int) : Option (List Int × Int) := if (l0.length : Int) > 2000 then (if 2000 ≤ (l0.length : Int) then (some (l0.take 2000, 0)) else (none)) else (some (l0, 0))
set_option maxHeartbeats 8000000 in
set_option maxRecDepth 100000 in
theorem spec_l6Open.calls (A0 : Option Addr) (c0 : Nat) (l0 : List Int) (r1 : List Int) (r2 : Int) (w0 w : World) (hB : Below w0.heap.size w0 w) (hr0 : Kd.C (Kd.int .u8) w0 A0 l0.length l0) (hc0 : l0.length ≤ c0) (h : spec_l6Open.f l0 = some (r1, r2)) :
    Calls Try.prog 25 #[.slice A0 l0.length c0] w fun e w' => ∃ g_ : Nat, e = .returned (.pointer (some ⟨g_, 0, none⟩)) ∧ IsS61 w0 w' g_ r1 r2 ∧ Below w0.heap.size w0 w' ∧ Below w.heap.size w w' := by
  have hu61 := Try.underlying61
  have HR0 := Aside0.mk hr0
  have HC0 := Aside0.mk hc0
  clear hr0 hc0
  have HBW := Aside0.mk (Below.refl w.heap.size w)
  have HW0 := Aside0.mk hB.size
  have HB := Aside0.mk hB
  clear hB
  have H : (if (l0.length : Int) > 2000 then (if 2000 ≤ (l0.length : Int) then (some (l0.take 2000, 0)) else (none)) else (some (l0, 0))) = some (r1, r2) := h
  clear h
  by_cases c2 : (l0.length : Int) > 2000
  · rw [if_pos c2] at H
    have c2b0 : decide (2000 < (l0.length : Int)) = true := decide_eq_true c2
    have c2b1 : decide (2000 < l0.length) = true := decide_eq_true (by omega)
    clear c2
    by_cases c3 : 2000 ≤ (l0.length : Int)
    · rw [if_pos c3] at H
      have c3b0 := eq_true c3
      have c3b1 : decide (2000 ≤ (l0.length : Int)) = true := decide_eq_true c3
      clear c3
      simp only [Option.some.injEq, Prod.mk.injEq] at H
      obtain ⟨rfl, rfl⟩ := H
      obtain ⟨i04, hi04, _, hsz4, _⟩ := info_parts info5
      obtain ⟨hcut4, hA4, hC4⟩ := print_take_of (P := Try.prog) (Value.int .u8) 0 22 5 .i64 Try.underlying22 hi04 hsz4 A0 c0 l0 2000 (by omega) (of_decide_eq_true qq3) HC0.out
      have HR192 := Aside0.mk (Kd.C_of_reads (h1 := fun _ => rfl) (hA4 _ (Kd.reads_of_C HR0.out)))
      have HC192 := Aside0.mk hC4
      clear hA4 hC4 hi04 hsz4
      go_enter Try.func25, Try.ntmps25
      go_wp2_with (first | ((with_reducible refine gate_dst (N := 10) rfl ?_); refine box_event ?hg (N := 10) ?hd (cs := #[.slice A0 (l0.take 2000).length c0, .int .i64 0]) (t := 61) ?hr ?_; (case hd => rfl); (case hg => rfl); (case hr => exact qq16); intro gb193 hg w5 hbox hb; have n0_ := Aside0.mk (below_step HBW.out hb); have n1_ := Aside0.mk (below_step qq1 hb); have n2_ := Aside0.mk (hbox); have n3_ := Aside0.mk ((qq49 : w.heap.size ≤ gb193)); have n4_ := Aside0.mk ((Nat.le_trans HW0.out (qq49 : w.heap.size ≤ gb193) : w0.heap.size ≤ gb193)); clear HBW; clear HB; have HBW := n0_; have HB := n1_; have BK193 := n2_; have GW193 := n3_; have GE193 := n4_; clear n0_ n1_ n2_ n3_ n4_; clear hb hbox hg))
      go_ret
      exact ⟨_, rfl, (show IsS61 w0 _ gb193 (l0.take 2000) 0 from ⟨_, _, qq23 BK193.out, GE193.out, HR192.out⟩), qq4 HB.out GE193.out, qq4 HBW.out GW193.out⟩
    · rw [if_neg c3] at H
      exact absurd H (by simp)
  · rw [if_neg c2] at H
    have c2b0 : decide (2000 < (l0.length : Int)) = false := decide_eq_false c2
    have c2b1 : decide (2000 < l0.length) = false := decide_eq_false (by omega)
    clear c2
    simp only [Option.some.injEq, Prod.mk.injEq] at H
    obtain ⟨rfl, rfl⟩ := H
    go_enter Try.func25, Try.ntmps25
    go_wp2_with (first | ((with_reducible refine gate_dst (N := 10) rfl ?_); refine box_event ?hg (N := 10) ?hd (cs := #[.slice A0 l0.length c0, .int .i64 0]) (t := 61) ?hr ?_; (case hd => rfl); (case hg => rfl); (case hr => exact qq16); intro gb194 hg w6 hbox hb; have n0_ := Aside0.mk (below_step HBW.out hb); have n1_ := Aside0.mk (below_step qq1 hb); have n2_ := Aside0.mk (hbox); have n3_ := Aside0.mk ((qq49 : w.heap.size ≤ gb194)); have n4_ := Aside0.mk ((Nat.le_trans HW0.out (qq49 : w.heap.size ≤ gb194) : w0.heap.size ≤ gb194)); clear HBW; clear HB; have HBW := n0_; have HB := n1_; have BK194 := n2_; have GW194 := n3_; have GE194 := n4_; clear n0_ n1_ n2_ n3_ n4_; clear hb hbox hg))
    go_ret
    exact ⟨_, rfl, (show IsS61 w0 _ gb194 l0 0 from ⟨_, _, qq23 BK194.out, GE194.out, HR0.out⟩), qq4 HB.out GE194.out, qq4 HBW.out GW194.out⟩

end Go.Proofs.Ytmcfhmflncghiaa.Q
namespace Go.Proofs.Ytmcfhmflncghiaa.Q
open Go.RowKit Go.Proofs.YtmcfhmflncghiaaW.PrintWords Go.Proofs.YtmcfhmflncghiaaW.PrintLast Go.Proofs.YtmcfhmflncghiaaW.PrintMore
attribute [local go_sem] max2_int min2_int max_two min_two max_three min_three max_four min_four
set_option linter.unusedVariables false
set_option linter.unusedSimpArgs false

/-! ### spec_DrawLoopCloses: function 7 -/
def spec_DrawLoopCloses.f (k : Nat) (l0 : List Int) : Option (Int × (List (S32))) := (spec_l6Open.f l0).bind fun bt195 => ((spec_l91True.f k bt195.1 bt195.2 6).bind fun bt198 => (some (bt198.1, bt198.2.1)))
set_option maxHeartbeats 8000000 in
set_option maxRecDepth 100000 in
theorem spec_DrawLoopCloses.calls (k : Nat) (A0 : Option Addr) (c0 : Nat) (l0 : List Int) (r1 : Int) (r2 : List (S32)) (w : World) (hr0 : Kd.C (Kd.int .u8) w A0 l0.length l0) (hc0 : l0.length ≤ c0) (h : spec_DrawLoopCloses.f k l0 = some (r1, r2)) :
    Calls Try.prog 7 #[.slice A0 l0.length c0] w fun e w' => ∃ v1_ : Value, e = .returned (.tuple #[.int .i64 r1, v1_]) ∧ Kd.R k32 32 w' w.heap.size (fun _ => True) v1_ r2 ∧ Below w.heap.size w w' := by
  have HR0 := Aside0.mk hr0
  have HC0 := Aside0.mk hc0
  clear hr0 hc0
  have HB := Aside0.mk (Below.refl w.heap.size w)
  have H : ((spec_l6Open.f l0).bind fun bt195 => ((spec_l91True.f k bt195.1 bt195.2 6).bind fun bt198 => (some (bt198.1, bt198.2.1)))) = some (r1, r2) := h
  clear h
  replace H := Option.bind_eq_some_iff.mp H
  obtain ⟨⟨t195, t196⟩, A20, H⟩ := H
  replace H : ((spec_l91True.f k t195 t196 6).bind fun bt198 => (some (bt198.1, bt198.2.1))) = some (r1, r2) := H
  have A2 := Aside0.mk A20
  clear A20
  replace H := Option.bind_eq_some_iff.mp H
  obtain ⟨⟨t198, t199, t202⟩, A30, H⟩ := H
  replace H : (some (t198, t199)) = some (r1, r2) := H
  have A3 := Aside0.mk A30
  clear A30
  simp only [Option.some.injEq, Prod.mk.injEq] at H
  obtain ⟨rfl, rfl⟩ := H
  go_enter Try.func7, Try.ntmps7
  go_wp2_with (first | ((with_reducible refine gate_callee (f := 25) rfl ?_); refine goesL_ (some 5) rfl rfl Try.func25 (by kernel_rfl) rfl #[.slice A0 l0.length c0] rfl qq5 ?_; (with_reducible refine (spec_l6Open.calls _ _ l0 t195 t196 w _ ?side1 ?side2 ?side3 A2.out).mono ?_); (case side1 => exact qq1); (case side2 => exact HR0.out); (case side3 => exact HC0.out); rintro e w4 ⟨g197, rfl, hi, hb, hb2⟩; refine ⟨_, rfl, ?_⟩; have n0_ := Aside0.mk (hb); have n1_ := Aside0.mk (hi); clear HB; have HB := n0_; have HI197 := n1_; clear n0_ n1_; (try clear hb); (try clear hb2); (try clear hk); (try clear hi)) | ((with_reducible refine gate_callee (f := 24) rfl ?_); refine goesL_ (some 6) rfl rfl Try.func24 (by kernel_rfl) rfl #[.pointer (some ⟨g197, 0, none⟩), .int .i64 6] rfl qq5 ?_; (with_reducible refine (spec_l91True.calls k g197 t195 t196 6 t198 t199 t202 w _ ?side1 ?side2 A3.out).mono ?_); (case side1 => repeat (first | (with_reducible first | exact HI197.out | apply IsS61.alloc | apply IsS61.drewN | apply IsS61.drew | apply IsS61.set_1) | exact HI197.out)); (case side2 => exact qq53); rintro e w5 ⟨v200, rfl, ho0, hi, hb, hk⟩; refine ⟨_, rfl, ?_⟩; have n0_ := Aside0.mk (Kd.R_lower ho0 (below_size qq53)); have n1_ := Aside0.mk (hb); have n2_ := Aside0.mk (hi); clear HB; clear HI197; have HO201 := n0_; have HB := n1_; have HI197 := n2_; clear n0_ n1_ n2_; (try clear hb); (try clear hb2); (try clear hk); (try clear hi); (try clear ho0)))
  go_ret2
  exact ⟨_, qq11, qq2 HO201.out, qq53⟩

end Go.Proofs.Ytmcfhmflncghiaa.Q
namespace Go.Proofs.Ytmcfhmflncghiaa.Q
open Go.RowKit Go.Proofs.YtmcfhmflncghiaaW.PrintWords Go.Proofs.YtmcfhmflncghiaaW.PrintLast Go.Proofs.YtmcfhmflncghiaaW.PrintMore
attribute [local go_sem] max2_int min2_int max_two min_two max_three min_three max_four min_four
set_option linter.unusedVariables false
set_option linter.unusedSimpArgs false

/-! ### impl_runValid: function 43 -/
def impl_runValid.f (a0 : Int) (a1_0 : Int) (a1_1 : Int) (a1_2 : Int) (a1_3 : Int) : Option (Bool) := if a1_0 < 0 then (some false) else (if a1_0 ≥ a0 then (some false) else (if a1_1 < 0 then (some false) else (if a1_1 ≥ a0 then (some false) else (if a1_0 = a1_1 then (some false) else ((impl_within.f a1_2 100000).bind fun t204 => (if t204 = true then (if a1_3 ≥ 1 then (some (decide (a1_3 ≤ 9))) else (some false)) else (some false)))))))
set_option maxHeartbeats 8000000 in
set_option maxRecDepth 100000 in
theorem impl_runValid.calls (a0 : Int) (a1_0 : Int) (a1_1 : Int) (a1_2 : Int) (a1_3 : Int) (r : Bool) (w : World) (h : impl_runValid.f a0 a1_0 a1_1 a1_2 a1_3 = some r) :
    Calls Try.prog 43 #[.int .i64 a0, .agg #[.int .i64 a1_0, .int .i64 a1_1, .int .i64 a1_2, .int .i64 a1_3]] w fun e w' => e = .returned (.bool r) ∧ Below w.heap.size w w' := by
  have hu32 := Try.underlying32
  have HB := Aside0.mk (Below.refl w.heap.size w)
  have H : (if a1_0 < 0 then (some false) else (if a1_0 ≥ a0 then (some false) else (if a1_1 < 0 then (some false) else (if a1_1 ≥ a0 then (some false) else (if a1_0 = a1_1 then (some false) else ((impl_within.f a1_2 100000).bind fun t204 => (if t204 = true then (if a1_3 ≥ 1 then (some (decide (a1_3 ≤ 9))) else (some false)) else (some false)))))))) = some r := h
  clear h
  by_cases c3 : a1_0 < 0
  · rw [if_pos c3] at H
    have c3b0 : decide (a1_0 < 0) = true := decide_eq_true c3
    clear c3
    obtain rfl := Option.some.inj H
    go_enter Try.func43, Try.ntmps43
    go_wp2_with (first | ((with_reducible refine gate_dst (N := 3) rfl ?_); refine box_event ?hg (N := 3) ?hd (cs := #[.int .i64 a1_0, .int .i64 a1_1, .int .i64 a1_2, .int .i64 a1_3]) (t := 32) ?hr ?_; (case hd => rfl); (case hg => rfl); (case hr => exact qq16); intro gb203 hg w4 hbox hb; have n0_ := Aside0.mk (below_step qq1 hb); have n1_ := Aside0.mk (hbox); have n2_ := Aside0.mk ((qq34 : w.heap.size ≤ gb203)); have n3_ := Aside0.mk ((qq34 : w.heap.size ≤ gb203)); clear HB; have HB := n0_; have BK203 := n1_; have GW203 := n2_; have GE203 := n3_; clear n0_ n1_ n2_ n3_; clear hb hbox hg; have hcz5_0 : w4.cell? ⟨gb203, 0, none⟩ = some (.int .i64 a1_0) := (blk_cell BK203.out 0).trans rfl; have hcz5_1 : w4.cell? ⟨gb203, 1, none⟩ = some (.int .i64 a1_1) := (blk_cell BK203.out 1).trans rfl; have hcz5_2 : w4.cell? ⟨gb203, 2, none⟩ = some (.int .i64 a1_2) := (blk_cell BK203.out 2).trans rfl; have hcz5_3 : w4.cell? ⟨gb203, 3, none⟩ = some (.int .i64 a1_3) := (blk_cell BK203.out 3).trans rfl; have hfz5_0 := blk_frozen BK203.out 0; have hfz5_1 := blk_frozen BK203.out 1; have hfz5_2 := blk_frozen BK203.out 2; have hfz5_3 := blk_frozen BK203.out 3))
    go_ret
    exact ⟨qq11, qq4 HB.out GE203.out⟩
  · rw [if_neg c3] at H
    have c3b0 : decide (a1_0 < 0) = false := decide_eq_false c3
    clear c3
    by_cases c6 : a1_0 ≥ a0
    · rw [if_pos c6] at H
      have c6b0 : decide (a0 ≤ a1_0) = true := decide_eq_true c6
      clear c6
      obtain rfl := Option.some.inj H
      go_enter Try.func43, Try.ntmps43
      go_wp2_with (first | ((with_reducible refine gate_dst (N := 3) rfl ?_); refine box_event ?hg (N := 3) ?hd (cs := #[.int .i64 a1_0, .int .i64 a1_1, .int .i64 a1_2, .int .i64 a1_3]) (t := 32) ?hr ?_; (case hd => rfl); (case hg => rfl); (case hr => exact qq16); intro gb203 hg w7 hbox hb; have n0_ := Aside0.mk (below_step qq1 hb); have n1_ := Aside0.mk (hbox); have n2_ := Aside0.mk ((qq34 : w.heap.size ≤ gb203)); have n3_ := Aside0.mk ((qq34 : w.heap.size ≤ gb203)); clear HB; have HB := n0_; have BK203 := n1_; have GW203 := n2_; have GE203 := n3_; clear n0_ n1_ n2_ n3_; clear hb hbox hg; have hcz8_0 : w7.cell? ⟨gb203, 0, none⟩ = some (.int .i64 a1_0) := (blk_cell BK203.out 0).trans rfl; have hcz8_1 : w7.cell? ⟨gb203, 1, none⟩ = some (.int .i64 a1_1) := (blk_cell BK203.out 1).trans rfl; have hcz8_2 : w7.cell? ⟨gb203, 2, none⟩ = some (.int .i64 a1_2) := (blk_cell BK203.out 2).trans rfl; have hcz8_3 : w7.cell? ⟨gb203, 3, none⟩ = some (.int .i64 a1_3) := (blk_cell BK203.out 3).trans rfl; have hfz8_0 := blk_frozen BK203.out 0; have hfz8_1 := blk_frozen BK203.out 1; have hfz8_2 := blk_frozen BK203.out 2; have hfz8_3 := blk_frozen BK203.out 3))
      go_ret
      exact ⟨qq11, qq4 HB.out GE203.out⟩
    · rw [if_neg c6] at H
      have c6b0 : decide (a0 ≤ a1_0) = false := decide_eq_false c6
      clear c6
      by_cases c9 : a1_1 < 0
      · rw [if_pos c9] at H
        have c9b0 : decide (a1_1 < 0) = true := decide_eq_true c9
        clear c9
        obtain rfl := Option.some.inj H
        go_enter Try.func43, Try.ntmps43
        go_wp2_with (first | ((with_reducible refine gate_dst (N := 3) rfl ?_); refine box_event ?hg (N := 3) ?hd (cs := #[.int .i64 a1_0, .int .i64 a1_1, .int .i64 a1_2, .int .i64 a1_3]) (t := 32) ?hr ?_; (case hd => rfl); (case hg => rfl); (case hr => exact qq16); intro gb203 hg w10 hbox hb; have n0_ := Aside0.mk (below_step qq1 hb); have n1_ := Aside0.mk (hbox); have n2_ := Aside0.mk ((qq34 : w.heap.size ≤ gb203)); have n3_ := Aside0.mk ((qq34 : w.heap.size ≤ gb203)); clear HB; have HB := n0_; have BK203 := n1_; have GW203 := n2_; have GE203 := n3_; clear n0_ n1_ n2_ n3_; clear hb hbox hg; have hcz11_0 : w10.cell? ⟨gb203, 0, none⟩ = some (.int .i64 a1_0) := (blk_cell BK203.out 0).trans rfl; have hcz11_1 : w10.cell? ⟨gb203, 1, none⟩ = some (.int .i64 a1_1) := (blk_cell BK203.out 1).trans rfl; have hcz11_2 : w10.cell? ⟨gb203, 2, none⟩ = some (.int .i64 a1_2) := (blk_cell BK203.out 2).trans rfl; have hcz11_3 : w10.cell? ⟨gb203, 3, none⟩ = some (.int .i64 a1_3) := (blk_cell BK203.out 3).trans rfl; have hfz11_0 := blk_frozen BK203.out 0; have hfz11_1 := blk_frozen BK203.out 1; have hfz11_2 := blk_frozen BK203.out 2; have hfz11_3 := blk_frozen BK203.out 3))
        go_ret
        exact ⟨qq11, qq4 HB.out GE203.out⟩
      · rw [if_neg c9] at H
        have c9b0 : decide (a1_1 < 0) = false := decide_eq_false c9
        clear c9
        by_cases c12 : a1_1 ≥ a0
        · rw [if_pos c12] at H
          have c12b0 : decide (a0 ≤ a1_1) = true := decide_eq_true c12
          clear c12
          obtain rfl := Option.some.inj H
          go_enter Try.func43, Try.ntmps43
          go_wp2_with (first | ((with_reducible refine gate_dst (N := 3) rfl ?_); refine box_event ?hg (N := 3) ?hd (cs := #[.int .i64 a1_0, .int .i64 a1_1, .int .i64 a1_2, .int .i64 a1_3]) (t := 32) ?hr ?_; (case hd => rfl); (case hg => rfl); (case hr => exact qq16); intro gb203 hg w13 hbox hb; have n0_ := Aside0.mk (below_step qq1 hb); have n1_ := Aside0.mk (hbox); have n2_ := Aside0.mk ((qq34 : w.heap.size ≤ gb203)); have n3_ := Aside0.mk ((qq34 : w.heap.size ≤ gb203)); clear HB; have HB := n0_; have BK203 := n1_; have GW203 := n2_; have GE203 := n3_; clear n0_ n1_ n2_ n3_; clear hb hbox hg; have hcz14_0 : w13.cell? ⟨gb203, 0, none⟩ = some (.int .i64 a1_0) := (blk_cell BK203.out 0).trans rfl; have hcz14_1 : w13.cell? ⟨gb203, 1, none⟩ = some (.int .i64 a1_1) := (blk_cell BK203.out 1).trans rfl; have hcz14_2 : w13.cell? ⟨gb203, 2, none⟩ = some (.int .i64 a1_2) := (blk_cell BK203.out 2).trans rfl; have hcz14_3 : w13.cell? ⟨gb203, 3, none⟩ = some (.int .i64 a1_3) := (blk_cell BK203.out 3).trans rfl; have hfz14_0 := blk_frozen BK203.out 0; have hfz14_1 := blk_frozen BK203.out 1; have hfz14_2 := blk_frozen BK203.out 2; have hfz14_3 := blk_frozen BK203.out 3))
          go_ret
          exact ⟨qq11, qq4 HB.out GE203.out⟩
        · rw [if_neg c12] at H
          have c12b0 : decide (a0 ≤ a1_1) = false := decide_eq_false c12
          clear c12
          by_cases c15 : a1_0 = a1_1
          · rw [if_pos c15] at H
            have c15b0 : (a1_0 == a1_1) = true := beq_iff_eq.mpr c15
            have c15b1 : (a1_0 != a1_1) = false := bne_eq_false_iff_eq.mpr c15
            clear c15
            obtain rfl := Option.some.inj H
            go_enter Try.func43, Try.ntmps43
            go_wp2_with (first | ((with_reducible refine gate_dst (N := 3) rfl ?_); refine box_event ?hg (N := 3) ?hd (cs := #[.int .i64 a1_0, .int .i64 a1_1, .int .i64 a1_2, .int .i64 a1_3]) (t := 32) ?hr ?_; (case hd => rfl); (case hg => rfl); (case hr => exact qq16); intro gb203 hg w16 hbox hb; have n0_ := Aside0.mk (below_step qq1 hb); have n1_ := Aside0.mk (hbox); have n2_ := Aside0.mk ((qq34 : w.heap.size ≤ gb203)); have n3_ := Aside0.mk ((qq34 : w.heap.size ≤ gb203)); clear HB; have HB := n0_; have BK203 := n1_; have GW203 := n2_; have GE203 := n3_; clear n0_ n1_ n2_ n3_; clear hb hbox hg; have hcz17_0 : w16.cell? ⟨gb203, 0, none⟩ = some (.int .i64 a1_0) := (blk_cell BK203.out 0).trans rfl; have hcz17_1 : w16.cell? ⟨gb203, 1, none⟩ = some (.int .i64 a1_1) := (blk_cell BK203.out 1).trans rfl; have hcz17_2 : w16.cell? ⟨gb203, 2, none⟩ = some (.int .i64 a1_2) := (blk_cell BK203.out 2).trans rfl; have hcz17_3 : w16.cell? ⟨gb203, 3, none⟩ = some (.int .i64 a1_3) := (blk_cell BK203.out 3).trans rfl; have hfz17_0 := blk_frozen BK203.out 0; have hfz17_1 := blk_frozen BK203.out 1; have hfz17_2 := blk_frozen BK203.out 2; have hfz17_3 := blk_frozen BK203.out 3))
            go_ret
            exact ⟨qq11, qq4 HB.out GE203.out⟩
          · rw [if_neg c15] at H
            have c15b0 : (a1_0 == a1_1) = false := beq_eq_false_iff_ne.mpr c15
            have c15b1 : (a1_0 != a1_1) = true := bne_iff_ne.mpr c15
            replace H := Option.bind_eq_some_iff.mp H
            obtain ⟨t204, A180, H⟩ := H
            replace H : (if t204 = true then (if a1_3 ≥ 1 then (some (decide (a1_3 ≤ 9))) else (some false)) else (some false)) = some r := H
            have A18 := Aside0.mk A180
            clear A180
            by_cases c19 : t204 = true
            · subst c19
              have H1 : (if a1_3 ≥ 1 then (some (decide (a1_3 ≤ 9))) else (some false)) = some r := by rw [if_pos rfl] at H; exact H
              clear H
              have H := H1
              clear H1
              by_cases c20 : a1_3 ≥ 1
              · rw [if_pos c20] at H
                have c20b0 : decide (1 ≤ a1_3) = true := decide_eq_true c20
                clear c20
                obtain rfl := Option.some.inj H
                go_enter Try.func43, Try.ntmps43
                go_wp2_with (first | ((with_reducible refine gate_dst (N := 3) rfl ?_); refine box_event ?hg (N := 3) ?hd (cs := #[.int .i64 a1_0, .int .i64 a1_1, .int .i64 a1_2, .int .i64 a1_3]) (t := 32) ?hr ?_; (case hd => rfl); (case hg => rfl); (case hr => exact qq16); intro gb203 hg w21 hbox hb; have n0_ := Aside0.mk (below_step qq1 hb); have n1_ := Aside0.mk (hbox); have n2_ := Aside0.mk ((qq34 : w.heap.size ≤ gb203)); have n3_ := Aside0.mk ((qq34 : w.heap.size ≤ gb203)); clear HB; have HB := n0_; have BK203 := n1_; have GW203 := n2_; have GE203 := n3_; clear n0_ n1_ n2_ n3_; clear hb hbox hg; have hcz22_0 : w21.cell? ⟨gb203, 0, none⟩ = some (.int .i64 a1_0) := (blk_cell BK203.out 0).trans rfl; have hcz22_1 : w21.cell? ⟨gb203, 1, none⟩ = some (.int .i64 a1_1) := (blk_cell BK203.out 1).trans rfl; have hcz22_2 : w21.cell? ⟨gb203, 2, none⟩ = some (.int .i64 a1_2) := (blk_cell BK203.out 2).trans rfl; have hcz22_3 : w21.cell? ⟨gb203, 3, none⟩ = some (.int .i64 a1_3) := (blk_cell BK203.out 3).trans rfl; have hfz22_0 := blk_frozen BK203.out 0; have hfz22_1 := blk_frozen BK203.out 1; have hfz22_2 := blk_frozen BK203.out 2; have hfz22_3 := blk_frozen BK203.out 3) | ((with_reducible refine gate_callee (f := 37) rfl ?_); refine goesL_ (some 34) rfl rfl Try.func37 (by kernel_rfl) rfl #[.int .i64 a1_2, .int .i64 100000] rfl qq5 ?_; (with_reducible refine (impl_within.calls a1_2 100000 true _ A18.out).mono ?_); rintro e w' ⟨rfl, ⟨nd, rfl⟩⟩; refine ⟨_, rfl, ?_⟩))
                go_ret
                exact ⟨qq11, qq4 HB.out GE203.out⟩
              · rw [if_neg c20] at H
                have c20b0 : decide (1 ≤ a1_3) = false := decide_eq_false c20
                clear c20
                obtain rfl := Option.some.inj H
                go_enter Try.func43, Try.ntmps43
                go_wp2_with (first | ((with_reducible refine gate_dst (N := 3) rfl ?_); refine box_event ?hg (N := 3) ?hd (cs := #[.int .i64 a1_0, .int .i64 a1_1, .int .i64 a1_2, .int .i64 a1_3]) (t := 32) ?hr ?_; (case hd => rfl); (case hg => rfl); (case hr => exact qq16); intro gb203 hg w23 hbox hb; have n0_ := Aside0.mk (below_step qq1 hb); have n1_ := Aside0.mk (hbox); have n2_ := Aside0.mk ((qq34 : w.heap.size ≤ gb203)); have n3_ := Aside0.mk ((qq34 : w.heap.size ≤ gb203)); clear HB; have HB := n0_; have BK203 := n1_; have GW203 := n2_; have GE203 := n3_; clear n0_ n1_ n2_ n3_; clear hb hbox hg; have hcz24_0 : w23.cell? ⟨gb203, 0, none⟩ = some (.int .i64 a1_0) := (blk_cell BK203.out 0).trans rfl; have hcz24_1 : w23.cell? ⟨gb203, 1, none⟩ = some (.int .i64 a1_1) := (blk_cell BK203.out 1).trans rfl; have hcz24_2 : w23.cell? ⟨gb203, 2, none⟩ = some (.int .i64 a1_2) := (blk_cell BK203.out 2).trans rfl; have hcz24_3 : w23.cell? ⟨gb203, 3, none⟩ = some (.int .i64 a1_3) := (blk_cell BK203.out 3).trans rfl; have hfz24_0 := blk_frozen BK203.out 0; have hfz24_1 := blk_frozen BK203.out 1; have hfz24_2 := blk_frozen BK203.out 2; have hfz24_3 := blk_frozen BK203.out 3) | ((with_reducible refine gate_callee (f := 37) rfl ?_); refine goesL_ (some 34) rfl rfl Try.func37 (by kernel_rfl) rfl #[.int .i64 a1_2, .int .i64 100000] rfl qq5 ?_; (with_reducible refine (impl_within.calls a1_2 100000 true _ A18.out).mono ?_); rintro e w' ⟨rfl, ⟨nd, rfl⟩⟩; refine ⟨_, rfl, ?_⟩))
                go_ret
                exact ⟨qq11, qq4 HB.out GE203.out⟩
            · replace c19 := Bool.eq_false_iff.mpr c19
              subst c19
              have H1 : (some false) = some r := by rw [if_neg (show ¬ (false = true) by decide)] at H; exact H
              clear H
              have H := H1
              clear H1
              obtain rfl := Option.some.inj H
              go_enter Try.func43, Try.ntmps43
              go_wp2_with (first | ((with_reducible refine gate_dst (N := 3) rfl ?_); refine box_event ?hg (N := 3) ?hd (cs := #[.int .i64 a1_0, .int .i64 a1_1, .int .i64 a1_2, .int .i64 a1_3]) (t := 32) ?hr ?_; (case hd => rfl); (case hg => rfl); (case hr => exact qq16); intro gb203 hg w25 hbox hb; have n0_ := Aside0.mk (below_step qq1 hb); have n1_ := Aside0.mk (hbox); have n2_ := Aside0.mk ((qq34 : w.heap.size ≤ gb203)); have n3_ := Aside0.mk ((qq34 : w.heap.size ≤ gb203)); clear HB; have HB := n0_; have BK203 := n1_; have GW203 := n2_; have GE203 := n3_; clear n0_ n1_ n2_ n3_; clear hb hbox hg; have hcz26_0 : w25.cell? ⟨gb203, 0, none⟩ = some (.int .i64 a1_0) := (blk_cell BK203.out 0).trans rfl; have hcz26_1 : w25.cell? ⟨gb203, 1, none⟩ = some (.int .i64 a1_1) := (blk_cell BK203.out 1).trans rfl; have hcz26_2 : w25.cell? ⟨gb203, 2, none⟩ = some (.int .i64 a1_2) := (blk_cell BK203.out 2).trans rfl; have hcz26_3 : w25.cell? ⟨gb203, 3, none⟩ = some (.int .i64 a1_3) := (blk_cell BK203.out 3).trans rfl; have hfz26_0 := blk_frozen BK203.out 0; have hfz26_1 := blk_frozen BK203.out 1; have hfz26_2 := blk_frozen BK203.out 2; have hfz26_3 := blk_frozen BK203.out 3) | ((with_reducible refine gate_callee (f := 37) rfl ?_); refine goesL_ (some 34) rfl rfl Try.func37 (by kernel_rfl) rfl #[.int .i64 a1_2, .int .i64 100000] rfl qq5 ?_; (with_reducible refine (impl_within.calls a1_2 100000 false _ A18.out).mono ?_); rintro e w' ⟨rfl, ⟨nd, rfl⟩⟩; refine ⟨_, rfl, ?_⟩))
              go_ret
              exact ⟨qq11, qq4 HB.out GE203.out⟩

end Go.Proofs.Ytmcfhmflncghiaa.Q
namespace Go.Proofs.Ytmcfhmflncghiaa.Q
open Go.RowKit Go.Proofs.YtmcfhmflncghiaaW.PrintWords Go.Proofs.YtmcfhmflncghiaaW.PrintLast Go.Proofs.YtmcfhmflncghiaaW.PrintMore
attribute [local go_sem] max2_int min2_int max_two min_two max_three min_three max_four min_four
set_option linter.unusedVariables false
set_option linter.unusedSimpArgs false

/-! ### impl_NetValid: function 23 -/
mutual
def impl_NetValid.j0 : Nat → Int → List (S32) → Bool → Option (Bool)
  | 0, _, _, _ => none
  | k + 1, x0, x1, x17 => if x17 = true then (some false) else (impl_NetValid.l0 k x0 x1 (x1.length : Int) 0)
def impl_NetValid.l0 : Nat → Int → List (S32) → Int → Int → Option (Bool)
  | 0, _, _, _, _ => none
  | k + 1, x0, x18, x19, x20 => if x20 < x19 then (if 0 ≤ x20 then (if x20 < (x18.length : Int) then ((impl_runValid.f x0 ((rd_T32 x18 x20).f0) ((rd_T32 x18 x20).f1) ((rd_T32 x18 x20).f2) ((rd_T32 x18 x20).f3)).bind fun t207 => (if t207 = true then (impl_NetValid.l0 k x0 x18 x19 (wrap64 (x20 + 1))) else (some false))) else (none)) else (none)) else (some true)
end
def impl_NetValid.f (k : Nat) (a0 : Int) (l1 : List (S32)) : Option (Bool) := if a0 < 2 then (impl_NetValid.j0 k a0 l1 true) else (if a0 > 6 then (impl_NetValid.j0 k a0 l1 true) else (impl_NetValid.j0 k a0 l1 (decide ((l1.length : Int) > 12))))
set_option maxHeartbeats 8000000 in
set_option maxRecDepth 100000 in
theorem impl_NetValid.calls (k : Nat) (a0 : Int) (A1 : Option Addr) (c1 : Nat) (l1 : List (S32)) (r : Bool) (w : World) (hr1 : Kd.C k32 w A1 l1.length l1) (hc1 : l1.length ≤ c1) (h : impl_NetValid.f k a0 l1 = some r) :
    Calls Try.prog 23 #[.int .i64 a0, .slice A1 l1.length c1] w fun e w' => e = .returned (.bool r) ∧ Below w.heap.size w w' := by
  have hu32 := Try.underlying32
  have HR1 := Aside0.mk hr1
  have HC1 := Aside0.mk hc1
  clear hr1 hc1
  have HB := Aside0.mk (Below.refl w.heap.size w)
  have H : (if a0 < 2 then (impl_NetValid.j0 k a0 l1 true) else (if a0 > 6 then (impl_NetValid.j0 k a0 l1 true) else (impl_NetValid.j0 k a0 l1 (decide ((l1.length : Int) > 12))))) = some r := h
  clear h
  have HC3 := Aside0.mk H
  clear H
  go_enter Try.func23, Try.ntmps23
  go_upto_region 1 with (fail)
  go_cut [17] (fun v17 wc => ∃ (kq : Nat) (x17_2 : Bool), v17 = .bool x17_2 ∧ Aside0 (impl_NetValid.j0 kq a0 l1 x17_2 = some r) ∧ Aside0 (kq ≤ k) ∧ Aside0 (Below w.heap.size w wc))
  case first =>
    have H := HC3.out
    clear HC3
    by_cases c4 : a0 < 2
    · rw [if_pos c4] at H
      have c4b0 : decide (a0 < 2) = true := decide_eq_true c4
      clear c4
      (first | rw [c4b0] | (simp only [i64_w, i32_w]; rw [c4b0]) | skip)
      have H' := Aside0.mk H
      clear H
      go_wp2
      go_meet
      case rel => exact ⟨_, (true), qq14, H', ⟨qq46⟩, ⟨qq1⟩⟩
    · rw [if_neg c4] at H
      have c4b0 : decide (a0 < 2) = false := decide_eq_false c4
      clear c4
      (first | rw [c4b0] | (simp only [i64_w, i32_w]; rw [c4b0]) | skip)
      by_cases c5 : a0 > 6
      · rw [if_pos c5] at H
        have c5b0 : decide (6 < a0) = true := decide_eq_true c5
        clear c5
        have H' := Aside0.mk H
        clear H
        go_wp2
        go_meet
        case rel => exact ⟨_, (true), qq14, H', ⟨qq46⟩, ⟨qq1⟩⟩
      · rw [if_neg c5] at H
        have c5b0 : decide (6 < a0) = false := decide_eq_false c5
        clear c5
        have H' := Aside0.mk H
        clear H
        go_wp2
        go_meet
        case rel => exact ⟨_, (decide ((l1.length : Int) > 12)), qq14, H', ⟨qq46⟩, ⟨qq1⟩⟩
  case rest =>
    clear HC3
    try clear c1
    try clear c2
    try clear p2
    try clear c4
    try clear c4b0
    try clear c5
    try clear c5b0
    obtain ⟨kq, x17_2, rfl, HA, HJ2, HB⟩ := hcut
    cases kq with
    | zero => exact absurd HA.out (by simp [impl_NetValid.j0])
    | succ kj2 =>
      have H := HA.out
      clear HA
      simp only [impl_NetValid.j0] at H
      by_cases c6 : x17_2 = true
      · subst c6
        have H1 : (some false) = some r := by rw [if_pos rfl] at H; exact H
        clear H
        have H := H1
        clear H1
        obtain rfl := Option.some.inj H
        go_wp2
        go_ret
        exact ⟨qq11, qq1⟩
      · replace c6 := Bool.eq_false_iff.mpr c6
        subst c6
        have H1 : (impl_NetValid.l0 kj2 a0 l1 (l1.length : Int) 0) = some r := by rw [if_neg (show ¬ (false = true) by decide)] at H; exact H
        clear H
        have H := H1
        clear H1
        have H' := Aside0.mk H
        clear H
        go_wp2
        go_loopg [20] kj2 (fun kq v20 w' => ∃ (x20_2 : Int), v20 = .int .i64 x20_2 ∧ Aside0 (impl_NetValid.l0 kq a0 l1 (l1.length : Int) x20_2 = some r) ∧ Aside0 (kq ≤ kj2) ∧ Aside0 (Below w.heap.size w w'))
        case atStart => exact ⟨(0), qq14, H', ⟨Nat.le_refl _⟩, ⟨qq1⟩⟩
        case round =>
          clear H'
          try clear c1
          try clear c2
          try clear p2
          try clear c4
          try clear c4b0
          try clear c5
          try clear c5b0
          try clear c6
          try clear p2
          obtain ⟨x20_2, rfl, HA, HK2, HB⟩ := hrel
          cases gk with
          | zero => exact absurd HA.out (by simp [impl_NetValid.l0])
          | succ k2 =>
            have H := HA.out
            clear HA
            simp only [impl_NetValid.l0] at H
            by_cases c7 : x20_2 < (l1.length : Int)
            · rw [if_pos c7] at H
              have c7b0 : decide (x20_2 < (l1.length : Int)) = true := decide_eq_true c7
              clear c7
              by_cases c8 : 0 ≤ x20_2
              · rw [if_pos c8] at H
                have c8b0 : decide (0 ≤ x20_2) = true := decide_eq_true c8
                clear c8
                by_cases c9 : x20_2 < (l1.length : Int)
                · rw [if_pos c9] at H
                  have c9b0 : decide (x20_2 < (l1.length : Int)) = true := decide_eq_true c9
                  clear c9
                  replace H := Option.bind_eq_some_iff.mp H
                  obtain ⟨t207, A100, H⟩ := H
                  replace H : (if t207 = true then (impl_NetValid.l0 k2 a0 l1 (l1.length : Int) (wrap64 (x20_2 + 1))) else (some false)) = some r := H
                  have A10 := Aside0.mk A100
                  clear A100
                  by_cases c11 : t207 = true
                  · subst c11
                    have H1 : (impl_NetValid.l0 k2 a0 l1 (l1.length : Int) (wrap64 (x20_2 + 1))) = some r := by rw [if_pos rfl] at H; exact H
                    clear H
                    have H := H1
                    clear H1
                    have H' := Aside0.mk H
                    clear H
                    have p205 : 0 ≤ (x20_2 : Int) := of_decide_eq_true qq3
                    have q205 : x20_2 < (l1.length : Int) := of_decide_eq_true qq3
                    obtain ⟨ad205, e205, hx205_0, hx205_1, hx205_2, hx205_3⟩ := at_T32 HR1.out x20_2 p205 q205
                    cases e205
                    replace hx205_0 := (HB.out.cell (World.block_lt_of_cell? w _ hx205_0)).trans hx205_0
                    replace hx205_1 := (HB.out.cell (World.block_lt_of_cell? w _ hx205_1)).trans hx205_1
                    replace hx205_2 := (HB.out.cell (World.block_lt_of_cell? w _ hx205_2)).trans hx205_2
                    replace hx205_3 := (HB.out.cell (World.block_lt_of_cell? w _ hx205_3)).trans hx205_3
                    replace p205 := eq_true p205
                    replace q205 := eq_true q205
                    go_wp2_with (first | ((with_reducible refine gate_dst (N := 6) rfl ?_); (try (refine gate_guard (by rfl) ?_; dsimp only)); refine box_event ?hg (N := 6) ?hd (cs := #[.int .i64 0, .int .i64 0, .int .i64 0, .int .i64 0]) (t := 32) ?hr ?_; (case hd => rfl); (case hg => rfl); (case hr => exact qq16); intro gb206 hg w12 hbox hb; have n0_ := Aside0.mk (below_step qq1 hb); have n1_ := Aside0.mk (hbox); have n2_ := Aside0.mk ((qq34 : w.heap.size ≤ gb206)); have n3_ := Aside0.mk ((qq34 : w.heap.size ≤ gb206)); clear HB; have HB := n0_; have BK206 := n1_; have GW206 := n2_; have GE206 := n3_; clear n0_ n1_ n2_ n3_; clear hb hbox hg; have hcz13_0 : w12.cell? ⟨gb206, 0, none⟩ = some (.int .i64 0) := (blk_cell BK206.out 0).trans rfl; have hcz13_1 : w12.cell? ⟨gb206, 1, none⟩ = some (.int .i64 0) := (blk_cell BK206.out 1).trans rfl; have hcz13_2 : w12.cell? ⟨gb206, 2, none⟩ = some (.int .i64 0) := (blk_cell BK206.out 2).trans rfl; have hcz13_3 : w12.cell? ⟨gb206, 3, none⟩ = some (.int .i64 0) := (blk_cell BK206.out 3).trans rfl; have hfz13_0 := blk_frozen BK206.out 0; have hfz13_1 := blk_frozen BK206.out 1; have hfz13_2 := blk_frozen BK206.out 2; have hfz13_3 := blk_frozen BK206.out 3) | ((with_reducible refine gate_callee (f := 43) rfl ?_); refine goesL_ (some 26) rfl rfl Try.func43 (by kernel_rfl) rfl #[.int .i64 a0, .agg #[.int .i64 ((rd_T32 l1 x20_2).f0), .int .i64 ((rd_T32 l1 x20_2).f1), .int .i64 ((rd_T32 l1 x20_2).f2), .int .i64 ((rd_T32 l1 x20_2).f3)]] rfl qq5 ?_; (with_reducible refine (impl_runValid.calls a0 ((rd_T32 l1 x20_2).f0) ((rd_T32 l1 x20_2).f1) ((rd_T32 l1 x20_2).f2) ((rd_T32 l1 x20_2).f3) true _ A10.out).mono ?_); rintro e w14 ⟨rfl, hb⟩; refine ⟨_, rfl, ?_⟩; have n0_ := Aside0.mk (blk_below (g := gb206) (o := .cells #[.int .i64 ((rd_T32 l1 x20_2).f0), .int .i64 ((rd_T32 l1 x20_2).f1), .int .i64 ((rd_T32 l1 x20_2).f2), .int .i64 ((rd_T32 l1 x20_2).f3)] 32 (0, 0)) qq33 hb); have n1_ := Aside0.mk (below_step (qq4 HB.out GE206.out) hb); clear BK206; clear HB; have BK206 := n0_; have HB := n1_; clear n0_ n1_; (try clear hb); (try clear hb2); (try clear hk); (try clear hi)))
                    go_roundg k2
                    case measure => have := HJ2.out; have := HK2.out; omega
                    case rel => exact ⟨(wrap64 (x20_2 + 1)), qq14, H', ⟨by have := HJ2.out; have := HK2.out; omega⟩, ⟨qq4 HB.out GE206.out⟩⟩
                  · replace c11 := Bool.eq_false_iff.mpr c11
                    subst c11
                    have H1 : (some false) = some r := by rw [if_neg (show ¬ (false = true) by decide)] at H; exact H
                    clear H
                    have H := H1
                    clear H1
                    obtain rfl := Option.some.inj H
                    have p205 : 0 ≤ (x20_2 : Int) := of_decide_eq_true qq3
                    have q205 : x20_2 < (l1.length : Int) := of_decide_eq_true qq3
                    obtain ⟨ad205, e205, hx205_0, hx205_1, hx205_2, hx205_3⟩ := at_T32 HR1.out x20_2 p205 q205
                    cases e205
                    replace hx205_0 := (HB.out.cell (World.block_lt_of_cell? w _ hx205_0)).trans hx205_0
                    replace hx205_1 := (HB.out.cell (World.block_lt_of_cell? w _ hx205_1)).trans hx205_1
                    replace hx205_2 := (HB.out.cell (World.block_lt_of_cell? w _ hx205_2)).trans hx205_2
                    replace hx205_3 := (HB.out.cell (World.block_lt_of_cell? w _ hx205_3)).trans hx205_3
                    replace p205 := eq_true p205
                    replace q205 := eq_true q205
                    go_wp2_with (first | ((with_reducible refine gate_dst (N := 6) rfl ?_); (try (refine gate_guard (by rfl) ?_; dsimp only)); refine box_event ?hg (N := 6) ?hd (cs := #[.int .i64 0, .int .i64 0, .int .i64 0, .int .i64 0]) (t := 32) ?hr ?_; (case hd => rfl); (case hg => rfl); (case hr => exact qq16); intro gb206 hg w15 hbox hb; have n0_ := Aside0.mk (below_step qq1 hb); have n1_ := Aside0.mk (hbox); have n2_ := Aside0.mk ((qq34 : w.heap.size ≤ gb206)); have n3_ := Aside0.mk ((qq34 : w.heap.size ≤ gb206)); clear HB; have HB := n0_; have BK206 := n1_; have GW206 := n2_; have GE206 := n3_; clear n0_ n1_ n2_ n3_; clear hb hbox hg; have hcz16_0 : w15.cell? ⟨gb206, 0, none⟩ = some (.int .i64 0) := (blk_cell BK206.out 0).trans rfl; have hcz16_1 : w15.cell? ⟨gb206, 1, none⟩ = some (.int .i64 0) := (blk_cell BK206.out 1).trans rfl; have hcz16_2 : w15.cell? ⟨gb206, 2, none⟩ = some (.int .i64 0) := (blk_cell BK206.out 2).trans rfl; have hcz16_3 : w15.cell? ⟨gb206, 3, none⟩ = some (.int .i64 0) := (blk_cell BK206.out 3).trans rfl; have hfz16_0 := blk_frozen BK206.out 0; have hfz16_1 := blk_frozen BK206.out 1; have hfz16_2 := blk_frozen BK206.out 2; have hfz16_3 := blk_frozen BK206.out 3) | ((with_reducible refine gate_callee (f := 43) rfl ?_); refine goesL_ (some 26) rfl rfl Try.func43 (by kernel_rfl) rfl #[.int .i64 a0, .agg #[.int .i64 ((rd_T32 l1 x20_2).f0), .int .i64 ((rd_T32 l1 x20_2).f1), .int .i64 ((rd_T32 l1 x20_2).f2), .int .i64 ((rd_T32 l1 x20_2).f3)]] rfl qq5 ?_; (with_reducible refine (impl_runValid.calls a0 ((rd_T32 l1 x20_2).f0) ((rd_T32 l1 x20_2).f1) ((rd_T32 l1 x20_2).f2) ((rd_T32 l1 x20_2).f3) false _ A10.out).mono ?_); rintro e w17 ⟨rfl, hb⟩; refine ⟨_, rfl, ?_⟩; have n0_ := Aside0.mk (blk_below (g := gb206) (o := .cells #[.int .i64 ((rd_T32 l1 x20_2).f0), .int .i64 ((rd_T32 l1 x20_2).f1), .int .i64 ((rd_T32 l1 x20_2).f2), .int .i64 ((rd_T32 l1 x20_2).f3)] 32 (0, 0)) qq33 hb); have n1_ := Aside0.mk (below_step (qq4 HB.out GE206.out) hb); clear BK206; clear HB; have BK206 := n0_; have HB := n1_; clear n0_ n1_; (try clear hb); (try clear hb2); (try clear hk); (try clear hi)))
                    go_ret
                    exact ⟨qq11, qq4 HB.out GE206.out⟩
                · rw [if_neg c9] at H
                  exact absurd H (by simp)
              · rw [if_neg c8] at H
                exact absurd H (by simp)
            · rw [if_neg c7] at H
              have c7b0 : decide (x20_2 < (l1.length : Int)) = false := decide_eq_false c7
              clear c7
              obtain rfl := Option.some.inj H
              go_wp2
              go_ret
              exact ⟨qq11, qq1⟩

end Go.Proofs.Ytmcfhmflncghiaa.Q
namespace Go.Proofs.Ytmcfhmflncghiaa.Pure
open Go.RowKit Go.Proofs.Ytmcfhmflncghiaa.Q Go.Proofs.YtmcfhmflncghiaaW.PrintWords Go.Proofs.YtmcfhmflncghiaaW.PrintLast Go.Proofs.YtmcfhmflncghiaaW.PrintMore

abbrev Run := S32
theorem nw64 {x : Int} (h0 : -9223372036854775808 ≤ x) (h1 : x ≤ 9223372036854775807) : wrap64 x = x := by unfold wrap64; omega
section
variable {α : Type} (pre suf : List α) (y : α)
theorem len_midR : (pre.length : Int) < ((pre ++ y :: suf).length : Int) := by simp; omega
theorem app_midR : pre ++ y :: suf = (pre ++ [y]) ++ suf := by simp
theorem next_midR (h : pre.length < 4611686018427387904) : wrap64 ((pre.length : Int) + 1) = ((pre ++ [y]).length : Int) := by
  unfold wrap64; simp; omega
theorem set_midR (z : α) : (pre ++ y :: suf).set ((pre.length : Int)).toNat z = pre ++ z :: suf := by simp
end
theorem rd_midR (pre suf : List Run) (y : Run) : rd_T32 (pre ++ y :: suf) (pre.length : Int) = y := by simp [rd_T32]

/-- A valid run of a net with n nodes. -/
def rvB (n : Int) (r : Run) : Bool := decide ((0 ≤ r.f0 ∧ r.f0 < n ∧ 0 ≤ r.f1 ∧ r.f1 < n ∧ r.f0 ≠ r.f1) ∧ (-100000 ≤ r.f2 ∧ r.f2 ≤ 100000) ∧ 1 ≤ r.f3 ∧ r.f3 ≤ 9)
/-- A valid net. -/
def nvB (n : Int) (l : List Run) : Bool := decide (2 ≤ n ∧ n ≤ 6 ∧ l.length ≤ 12) && l.all (rvB n)

theorem n6In_eq (a b c : Int) : spec_l6In.f a b c = some (decide (b ≤ a ∧ a ≤ c)) := by
  unfold spec_l6In.f
  by_cases h : a ≥ b
  · rw [if_pos h]; congr 1; rw [decide_eq_decide]; omega
  · rw [if_neg h]; congr 1; symm; rw [decide_eq_false_iff_not]; omega
theorem nwithin_eq (a m : Int) (h0 : 0 ≤ m) (h1 : m ≤ 9223372036854775807) : impl_within.f a m = some (decide (-m ≤ a ∧ a ≤ m)) := by
  unfold impl_within.f
  rw [nw64 (by omega) (by omega)]
  by_cases h : -m ≤ a
  · rw [if_pos h]; congr 1; rw [decide_eq_decide]; omega
  · rw [if_neg h]; congr 1; symm; rw [decide_eq_false_iff_not]; omega
theorem runValid_eq (n : Int) (r : Run) : impl_runValid.f n r.f0 r.f1 r.f2 r.f3 = some (rvB n r) := by
  simp only [impl_runValid.f, nwithin_eq _ 100000 (by omega) (by omega), Option.bind_some]
  unfold rvB
  repeat' split
  all_goals ((try simp only [decide_eq_true_eq] at *); congr 1; first | (symm; rw [decide_eq_false_iff_not]; omega) | (rw [decide_eq_decide]; omega))
theorem impl_NetValid_l0 (n : Int) (suf : List Run) : ∀ (pre : List Run) (k : Nat), suf.length < k → pre.length + suf.length < 4611686018427387904 →
    impl_NetValid.l0 k n (pre ++ suf) ((pre ++ suf).length : Int) (pre.length : Int) = some (suf.all (rvB n)) := by
  induction suf with
  | nil =>
    intro pre k hk _
    obtain ⟨k, rfl⟩ : ∃ m, k = m + 1 := ⟨k - 1, by omega⟩
    simp [impl_NetValid.l0]
  | cons y suf ih =>
    intro pre k hk hl
    simp only [List.length_cons] at hk hl
    obtain ⟨k, rfl⟩ : ∃ m, k = m + 1 := ⟨k - 1, by omega⟩
    simp only [impl_NetValid.l0]
    rw [if_pos (len_midR _ _ _), if_pos (by omega), if_pos (len_midR _ _ _), rd_midR, runValid_eq]
    simp only [Option.bind_some, List.all_cons]
    by_cases h : rvB n y = true
    · rw [if_pos h, next_midR pre y (by omega), app_midR pre suf y, ih (pre ++ [y]) k (by omega) (by simp; omega), h, Bool.true_and]
    · rw [if_neg h, Bool.eq_false_iff.2 h, Bool.false_and]
theorem impl_NetValid_eq (k : Nat) (n : Int) (l : List Run) (hk : 20 < k) : impl_NetValid.f k n l = some (nvB n l) := by
  obtain ⟨k, rfl⟩ : ∃ m, k = m + 1 := ⟨k - 1, by omega⟩
  unfold impl_NetValid.f nvB
  by_cases h1 : n < 2
  · rw [if_pos h1, decide_eq_false (by omega)]; simp [impl_NetValid.j0]
  · by_cases h2 : n > 6
    · rw [if_neg h1, if_pos h2, decide_eq_false (by omega)]; simp [impl_NetValid.j0]
    · rw [if_neg h1, if_neg h2]
      simp only [impl_NetValid.j0]
      by_cases h3 : (l.length : Int) > 12
      · rw [if_pos (by simpa using h3), decide_eq_false (by omega)]; simp
      · rw [if_neg (by simpa using h3), decide_eq_true (by omega), Bool.true_and]
        have := impl_NetValid_l0 n l [] k (by omega) (by simp; omega)
        simpa using this
theorem spec_NetValid_l0 (n : Int) (hn : 2 ≤ n ∧ n ≤ 6) (suf : List Run) : ∀ (pre : List Run) (k : Nat), 2 * suf.length + 1 < k → pre.length + suf.length < 4611686018427387904 →
    spec_NetValid.l0 k n (pre ++ suf) (pre.length : Int) = some (suf.all (rvB n)) := by
  induction suf with
  | nil =>
    intro pre k hk _
    obtain ⟨k, rfl⟩ : ∃ m, k = m + 1 := ⟨k - 1, by omega⟩
    simp [spec_NetValid.l0]
  | cons y suf ih =>
    intro pre k hk hl
    simp only [List.length_cons] at hk hl
    obtain ⟨k, rfl⟩ : ∃ m, k = m + 2 := ⟨k - 2, by omega⟩
    rw [spec_NetValid.l0]
    simp only [n6In_eq, Option.bind_some, List.all_cons]
    rw [if_pos (len_midR _ _ _), if_pos (by omega), rd_midR, nw64 (x := n - 1) (by omega) (by omega)]
    have hj : ∀ t : Bool, spec_NetValid.j2 (k + 1) n (pre ++ y :: suf) (pre.length : Int) t y.f0 y.f1 y.f2 y.f3 = some (!t && (decide ((-100000 ≤ y.f2 ∧ y.f2 ≤ 100000) ∧ 1 ≤ y.f3 ∧ y.f3 ≤ 9) && suf.all (rvB n))) := by
      intro t
      simp only [spec_NetValid.j2, n6In_eq, Option.bind_some]
      cases t with
      | true => simp
      | false =>
        rw [if_neg (by simp)]
        by_cases h1 : -100000 ≤ y.f2 ∧ y.f2 ≤ 100000
        · rw [if_pos (by simpa using h1)]
          by_cases h2 : 1 ≤ y.f3 ∧ y.f3 ≤ 9
          · rw [if_pos (by simpa using h2), next_midR pre y (by omega), app_midR pre suf y, ih (pre ++ [y]) k (by omega) (by simp; omega), decide_eq_true ⟨h1, h2⟩]; simp
          · rw [if_neg (by simpa using h2), decide_eq_false (fun q => h2 q.2)]; simp
        · rw [if_neg (by simpa using h1), decide_eq_false (fun q => h1 q.1)]; simp
    by_cases h0 : 0 ≤ y.f0 ∧ y.f0 ≤ n - 1
    · rw [if_pos (by simpa using h0)]
      by_cases h1 : 0 ≤ y.f1 ∧ y.f1 ≤ n - 1
      · rw [if_pos (by simpa using h1), hj, ← Bool.and_assoc]
        congr 2
        unfold rvB
        rw [Bool.eq_iff_iff, decide_eq_true_eq, Bool.and_eq_true, decide_eq_true_eq]
        simp; omega
      · rw [if_neg (by simpa using h1), hj]
        have : rvB n y = false := by unfold rvB; rw [decide_eq_false_iff_not]; omega
        rw [this]; simp
    · rw [if_neg (by simpa using h0), hj]
      have : rvB n y = false := by unfold rvB; rw [decide_eq_false_iff_not]; omega
      rw [this]; simp
theorem spec_NetValid_eq (k : Nat) (n : Int) (l : List Run) (hk : 40 < k) : spec_NetValid.f k n l = some (nvB n l) := by
  obtain ⟨k, rfl⟩ : ∃ m, k = m + 1 := ⟨k - 1, by omega⟩
  simp only [spec_NetValid.f, n6In_eq, Option.bind_some, spec_NetValid.j0]
  unfold nvB
  by_cases h1 : 2 ≤ n ∧ n ≤ 6
  · rw [if_pos (by simpa using h1)]
    by_cases h3 : (l.length : Int) > 12
    · rw [if_pos (by simpa using h3), decide_eq_false (by omega)]; simp
    · rw [if_neg (by simpa using h3), decide_eq_true (by omega), Bool.true_and]
      have := spec_NetValid_l0 n h1 l [] k (by omega) (by simp; omega)
      simpa using this
  · rw [if_neg (by simpa using h1), if_pos trivial, decide_eq_false (by omega)]; simp
end Go.Proofs.Ytmcfhmflncghiaa.Pure
namespace Go.Proofs.Ytmcfhmflncghiaa.Pure
open Go.RowKit Go.Proofs.Ytmcfhmflncghiaa.Q Go.Proofs.YtmcfhmflncghiaaW.PrintWords Go.Proofs.YtmcfhmflncghiaaW.PrintLast Go.Proofs.YtmcfhmflncghiaaW.PrintMore

/-- Linked by runs. -/
inductive Lk (l : List Run) : Int → Int → Prop
  | refl (a : Int) : Lk l a a
  | fwd {a : Int} {r : Run} (hm : r ∈ l) (h : Lk l a r.f0) : Lk l a r.f1
  | bwd {a : Int} {r : Run} (hm : r ∈ l) (h : Lk l a r.f1) : Lk l a r.f0
theorem Lk.trans {l : List Run} {a b c : Int} (h : Lk l a b) (k : Lk l b c) : Lk l a c := by
  induction k with
  | refl => exact h
  | fwd hm _ ih => exact .fwd hm ih
  | bwd hm _ ih => exact .bwd hm ih
theorem Lk.symm {l : List Run} {a b : Int} (h : Lk l a b) : Lk l b a := by
  induction h with
  | refl => exact .refl _
  | fwd hm _ ih => exact Lk.trans (.bwd hm (.refl _)) ih
  | bwd hm _ ih => exact Lk.trans (.fwd hm (.refl _)) ih
theorem Lk.mono {l l' : List Run} {a b : Int} (h : Lk l a b) (hs : ∀ r ∈ l, r ∈ l') : Lk l' a b := by
  induction h with
  | refl => exact .refl _
  | fwd hm _ ih => exact .fwd (hs _ hm) ih
  | bwd hm _ ih => exact .bwd (hs _ hm) ih
theorem Lk.run {l : List Run} {r : Run} (h : r ∈ l) : Lk l r.f0 r.f1 := .fwd h (.refl _)
theorem Lk.const {α : Type} {l : List Run} {a b : Int} (f : Int → α) (hc : ∀ r ∈ l, f r.f0 = f r.f1) (h : Lk l a b) : f a = f b := by
  induction h with
  | refl => rfl
  | fwd hm _ ih => exact ih.trans (hc _ hm)
  | bwd hm _ ih => exact ih.trans (hc _ hm).symm
/-- The ends of all runs are nodes. -/
def VL (n : Int) (l : List Run) : Prop := ∀ r ∈ l, 0 ≤ r.f0 ∧ r.f0 < n ∧ 0 ≤ r.f1 ∧ r.f1 < n
theorem VL.sub {n : Int} {l l' : List Run} (h : VL n l) (hs : ∀ r ∈ l', r ∈ l) : VL n l' := fun r hr => h r (hs r hr)
theorem Lk.range {n : Int} {l : List Run} (hv : VL n l) {a b : Int} (h : Lk l a b) (ha : 0 ≤ a ∧ a < n) : 0 ≤ b ∧ b < n := by
  induction h with
  | refl => exact ha
  | fwd hm _ _ => have := hv _ hm; omega
  | bwd hm _ _ => have := hv _ hm; omega
/-- The least node with which each node is linked. -/
structure Lst (n : Int) (l : List Run) (o : List Int) : Prop where
  len : (o.length : Int) = n
  lk : ∀ v, 0 ≤ v → v < n → Lk l (rd o v) v
  le : ∀ v, 0 ≤ v → v < n → rd o v ≤ v
  nn : ∀ v, 0 ≤ v → v < n → 0 ≤ rd o v
  cl : ∀ r ∈ l, rd o r.f0 = rd o r.f1
theorem rd_eq (o : List Int) (i : Nat) (h : i < o.length) : rd o (i : Int) = o[i] := by
  unfold rd; simp [List.getD, h]
theorem ext_rd {o o' : List Int} (hl : o.length = o'.length) (h : ∀ v : Int, 0 ≤ v → v < o.length → rd o v = rd o' v) : o = o' := by
  apply List.ext_getElem hl
  intro i h1 h2
  rw [← rd_eq o i h1, ← rd_eq o' i h2]
  exact h i (by omega) (by omega)
theorem rd_set (o : List Int) (i v x : Int) (h0 : 0 ≤ i) (hv : 0 ≤ v) (hl : v < o.length) : rd (o.set i.toNat x) v = if v = i then x else rd o v := by
  unfold rd
  obtain ⟨a, rfl⟩ : ∃ a : Nat, i = a := ⟨i.toNat, by omega⟩
  obtain ⟨b, rfl⟩ : ∃ b : Nat, v = b := ⟨v.toNat, by omega⟩
  simp only [Int.toNat_natCast, List.getD, List.getElem?_set]
  by_cases e : a = b
  · subst e; rw [if_pos rfl, if_pos rfl, if_pos (by omega)]; rfl
  · rw [if_neg e, if_neg (by omega)]
theorem lk_iff {n : Int} {l : List Run} {o : List Int} (h : Lst n l o) {a b : Int} (ha : 0 ≤ a ∧ a < n) (hb : 0 ≤ b ∧ b < n) : Lk l a b ↔ rd o a = rd o b := by
  constructor
  · exact fun k => k.const (rd o) h.cl
  · intro e
    exact (h.lk a ha.1 ha.2).symm.trans (by rw [e]; exact h.lk b hb.1 hb.2)
def mg (o : List Int) (a b : Int) : List Int := o.map fun x => if x = max a b then min a b else x
theorem rd_mg (o : List Int) (a b v : Int) (h0 : 0 ≤ v) (h1 : v < o.length) : rd (mg o a b) v = if rd o v = max a b then min a b else rd o v := by
  obtain ⟨i, rfl⟩ : ∃ i : Nat, v = i := ⟨v.toNat, by omega⟩
  rw [rd_eq _ i (by simp [mg]; omega), rd_eq o i (by omega)]
  simp [mg]
def iota (n : Int) : List Int := (List.range n.toNat).map fun (i : Nat) => (i : Int)
theorem iota_len (n : Int) (h : 0 ≤ n) : ((iota n).length : Int) = n := by simp [iota]; omega
theorem rd_iota (n v : Int) (h0 : 0 ≤ v) (h1 : v < n) : rd (iota n) v = v := by
  obtain ⟨i, rfl⟩ : ∃ i : Nat, v = i := ⟨v.toNat, by omega⟩
  rw [rd_eq _ i (by simp [iota]; omega)]
  simp [iota]
theorem Lst.nil (n : Int) (h : 0 ≤ n) : Lst n [] (iota n) := by
  refine ⟨iota_len n h, fun v h0 h1 => ?_, fun v h0 h1 => ?_, fun v h0 h1 => ?_, by simp⟩ <;> rw [rd_iota n v h0 h1]
  · exact .refl _
  · exact Int.le_refl _
  · exact h0
theorem Lst.snoc {n : Int} {l : List Run} {o : List Int} (h : Lst n l o) {e : Run} (he : 0 ≤ e.f0 ∧ e.f0 < n ∧ 0 ≤ e.f1 ∧ e.f1 < n) (hv : VL n l) : Lst n (l ++ [e]) (mg o (rd o e.f0) (rd o e.f1)) := by
  have hl := h.len
  have hs : ∀ r ∈ l, r ∈ l ++ [e] := fun r hr => List.mem_append_left _ hr
  have hab : Lk (l ++ [e]) (rd o e.f0) (rd o e.f1) := ((h.lk e.f0 he.1 he.2.1).mono hs).trans ((Lk.run (by simp)).trans ((h.lk e.f1 he.2.2.1 he.2.2.2).mono hs).symm)
  have na := h.nn e.f0 he.1 he.2.1
  have nb := h.nn e.f1 he.2.2.1 he.2.2.2
  refine ⟨by simp [mg]; omega, fun v h0 h1 => ?_, fun v h0 h1 => ?_, fun v h0 h1 => ?_, fun r hr => ?_⟩
  · rw [rd_mg _ _ _ _ h0 (by omega)]
    have k := (h.lk v h0 h1).mono hs
    split
    · next q =>
      rw [q] at k
      refine Lk.trans ?_ k
      rcases Int.le_total (rd o e.f0) (rd o e.f1) with c | c
      · rw [Int.max_eq_right c, Int.min_eq_left c]; exact hab
      · rw [Int.max_eq_left c, Int.min_eq_right c]; exact hab.symm
    · exact k
  · rw [rd_mg _ _ _ _ h0 (by omega)]
    have := h.le v h0 h1
    split <;> omega
  · rw [rd_mg _ _ _ _ h0 (by omega)]
    have := h.nn v h0 h1
    split <;> omega
  · rcases List.mem_append.1 hr with q | q
    · have := hv r q
      rw [rd_mg _ _ _ _ (by omega) (by omega), rd_mg _ _ _ _ (by omega) (by omega), h.cl r q]
    · obtain rfl : r = e := by simpa using q
      rw [rd_mg _ _ _ _ (by omega) (by omega), rd_mg _ _ _ _ (by omega) (by omega)]
      split <;> split <;> omega
def leastR (n : Int) (l : List Run) : List Int := l.foldl (fun o r => mg o (rd o r.f0) (rd o r.f1)) (iota n)
theorem leastR_snoc (n : Int) (l : List Run) (e : Run) : leastR n (l ++ [e]) = mg (leastR n l) (rd (leastR n l) e.f0) (rd (leastR n l) e.f1) := by simp [leastR]
theorem snocInd {α : Type} (P : List α → Prop) (h0 : P []) (h1 : ∀ l e, P l → P (l ++ [e])) (l : List α) : P l := by
  rw [← List.reverse_reverse l]
  induction l.reverse with
  | nil => exact h0
  | cons a t ih => rw [List.reverse_cons]; exact h1 _ _ ih
theorem leastR_lst {n : Int} (hn : 0 ≤ n) (l : List Run) : VL n l → Lst n l (leastR n l) := by
  refine snocInd (fun l => VL n l → Lst n l (leastR n l)) (fun _ => Lst.nil n hn) (fun l e ih hv => ?_) l
  have hv' : VL n l := hv.sub fun r hr => List.mem_append_left _ hr
  rw [leastR_snoc]
  exact (ih hv').snoc (hv e (by simp)) hv'
theorem nvB_VL {n : Int} {l : List Run} (h : nvB n l = true) : VL n l := by
  intro r hr
  unfold nvB at h
  rw [Bool.and_eq_true] at h
  have := List.all_eq_true.1 h.2 r hr
  unfold rvB at this
  have := of_decide_eq_true this
  omega
theorem nvB_n {n : Int} {l : List Run} (h : nvB n l = true) : 2 ≤ n ∧ n ≤ 6 ∧ l.length ≤ 12 := by
  unfold nvB at h
  rw [Bool.and_eq_true] at h
  exact of_decide_eq_true h.1
/-! counting -/
theorem count_le_of (c : Int) : ∀ (o o' : List Int), o.length = o'.length → (∀ i : Nat, (h : i < o.length) → (h' : i < o'.length) → o[i] = c → o'[i] = c) → o.count c ≤ o'.count c
  | [], [], _, _ => Nat.le_refl _
  | x :: o, y :: o', hl, h => by
    have ih := count_le_of c o o' (by simpa using hl) (fun i h1 h2 e => by have := h (i + 1) (by simp; omega) (by simp; omega) (by simpa using e); simpa using this)
    have h0 := h 0 (by simp) (by simp)
    simp only [List.count_cons, List.getElem_cons_zero] at h0 ⊢
    by_cases e : x = c
    · simp [e, h0 e]; omega
    · simp [e]; omega
theorem count_lt_of (c : Int) : ∀ (o o' : List Int), o.length = o'.length → (∀ i : Nat, (h : i < o.length) → (h' : i < o'.length) → o[i] = c → o'[i] = c) → (j : Nat) → (h : j < o.length) → (h' : j < o'.length) → o[j] ≠ c → o'[j] = c → o.count c < o'.count c
  | [], _, _, _, j, h, _, _, _ => by simp at h
  | x :: o, [], hl, _, _, _, _, _, _ => by simp at hl
  | x :: o, y :: o', hl, h, j, hj, hj', hn, he => by
    have hs : ∀ i : Nat, (h : i < o.length) → (h' : i < o'.length) → o[i] = c → o'[i] = c := fun i h1 h2 e => by have := h (i + 1) (by simp; omega) (by simp; omega) (by simpa using e); simpa using this
    have h0 := h 0 (by simp) (by simp)
    simp only [List.count_cons, List.getElem_cons_zero] at h0 ⊢
    cases j with
    | zero =>
      have ih := count_le_of c o o' (by simpa using hl) hs
      simp only [List.getElem_cons_zero] at hn he
      simp [hn, he]; omega
    | succ j =>
      have ih := count_lt_of c o o' (by simpa using hl) hs j (by simpa using hj) (by simpa using hj') (by simpa using hn) (by simpa using he)
      by_cases e : x = c
      · simp [e, h0 e]; omega
      · simp [e]; omega
theorem count_lt_rd (c : Int) (o o' : List Int) (hl : o.length = o'.length) (h : ∀ v : Int, 0 ≤ v → v < o.length → rd o v = c → rd o' v = c) (v : Int) (h0 : 0 ≤ v) (h1 : v < o.length) (hn : rd o v ≠ c) (he : rd o' v = c) : o.count c < o'.count c := by
  obtain ⟨j, rfl⟩ : ∃ j : Nat, v = j := ⟨v.toNat, by omega⟩
  refine count_lt_of c o o' hl (fun i h1 h2 e => ?_) j (by omega) (by omega) (by rwa [rd_eq o j (by omega)] at hn) (by rwa [rd_eq o' j (by omega)] at he)
  have := h i (by omega) (by omega) (by rw [rd_eq o i h1]; exact e)
  rwa [rd_eq o' i h2] at this
theorem count_pos_rd (c : Int) (o : List Int) (v : Int) (h0 : 0 ≤ v) (h1 : v < o.length) (h : rd o v = c) : 0 < o.count c := by
  obtain ⟨j, rfl⟩ : ∃ j : Nat, v = j := ⟨v.toNat, by omega⟩
  rw [List.count_pos_iff]
  rw [rd_eq o j (by omega)] at h
  rw [← h]
  exact List.getElem_mem _
/-! the reference: rounds -/
def stp (o : List Int) (r : Run) : List Int := (o.set r.f0.toNat (min (rd o r.f0) (rd o r.f1))).set r.f1.toNat (min (rd o r.f0) (rd o r.f1))
def rnd (l : List Run) (o : List Int) : List Int := l.foldl stp o
def rnds (l : List Run) : Nat → List Int → List Int
  | 0, o => o
  | j + 1, o => rnd l (rnds l j o)
structure Sd (n : Int) (l : List Run) (o : List Int) : Prop where
  len : (o.length : Int) = n
  lk : ∀ v, 0 ≤ v → v < n → Lk l (rd o v) v
theorem rd_stp {n : Int} {o : List Int} {r : Run} (hl : (o.length : Int) = n) (hr : 0 ≤ r.f0 ∧ r.f0 < n ∧ 0 ≤ r.f1 ∧ r.f1 < n) (v : Int) (h0 : 0 ≤ v) (h1 : v < n) :
    rd (stp o r) v = if v = r.f0 ∨ v = r.f1 then min (rd o r.f0) (rd o r.f1) else rd o v := by
  unfold stp
  rw [rd_set _ _ _ _ hr.2.2.1 h0 (by simp; omega), rd_set _ _ _ _ hr.1 h0 (by omega)]
  split <;> split <;> simp_all
theorem Sd.stp {n : Int} {l : List Run} {o : List Int} (h : Sd n l o) (hv : VL n l) {r : Run} (hr : r ∈ l) : Sd n l (stp o r) := by
  have hb := hv r hr
  refine ⟨by simp [Go.Proofs.Ytmcfhmflncghiaa.Pure.stp]; exact h.len, fun v h0 h1 => ?_⟩
  rw [rd_stp h.len hb v h0 h1]
  have k0 := h.lk r.f0 hb.1 hb.2.1
  have k1 := h.lk r.f1 hb.2.2.1 hb.2.2.2
  split
  · next q =>
    have kk : Lk l (min (rd o r.f0) (rd o r.f1)) r.f0 := by
      rcases Int.le_total (rd o r.f0) (rd o r.f1) with c | c
      · rw [Int.min_eq_left c]; exact k0
      · rw [Int.min_eq_right c]; exact k1.trans (Lk.run hr).symm
    rcases q with q | q <;> rw [q]
    · exact kk
    · exact kk.trans (Lk.run hr)
  · exact h.lk v h0 h1
theorem stp_keep {n : Int} {l : List Run} {o : List Int} {c : Int} (h : Sd n l o) (hv : VL n l) (hc : ∀ v, 0 ≤ v → v < n → Lk l c v → c ≤ v) {r : Run} (hr : r ∈ l) :
    (∀ v, 0 ≤ v → v < n → rd o v = c → rd (stp o r) v = c) ∧ (rd o r.f0 = c ∨ rd o r.f1 = c → rd (stp o r) r.f0 = c ∧ rd (stp o r) r.f1 = c) := by
  have hb := hv r hr
  have k0 := h.lk r.f0 hb.1 hb.2.1
  have k1 := h.lk r.f1 hb.2.2.1 hb.2.2.2
  have hm : rd o r.f0 = c ∨ rd o r.f1 = c → min (rd o r.f0) (rd o r.f1) = c := by
    intro q
    have r0 := (k0.symm).range hv ⟨hb.1, hb.2.1⟩
    have r1 := (k1.symm).range hv ⟨hb.2.2.1, hb.2.2.2⟩
    rcases q with q | q
    · have := hc _ r1.1 r1.2 (by rw [← q]; exact k0.trans ((Lk.run hr).trans k1.symm))
      omega
    · have := hc _ r0.1 r0.2 (by rw [← q]; exact k1.trans ((Lk.run hr).symm.trans k0.symm))
      omega
  refine ⟨fun v h0 h1 e => ?_, fun q => ?_⟩
  · rw [rd_stp h.len hb v h0 h1]
    split
    · next q => rcases q with q | q <;> subst q <;> exact hm (by simp [e])
    · exact e
  · rw [rd_stp h.len hb _ hb.1 hb.2.1, rd_stp h.len hb _ hb.2.2.1 hb.2.2.2]
    simp [hm q]
theorem rnd_keep {n : Int} {l : List Run} {c : Int} (hv : VL n l) (hc : ∀ v, 0 ≤ v → v < n → Lk l c v → c ≤ v) : ∀ (l' : List Run) (o : List Int), (∀ r ∈ l', r ∈ l) → Sd n l o →
    Sd n l (rnd l' o) ∧ (∀ v, 0 ≤ v → v < n → rd o v = c → rd (rnd l' o) v = c) ∧ ∀ r ∈ l', (rd o r.f0 = c ∨ rd o r.f1 = c → rd (rnd l' o) r.f0 = c ∧ rd (rnd l' o) r.f1 = c)
  | [], o, _, h => ⟨h, fun _ _ _ e => e, by simp⟩
  | r :: l', o, hs, h => by
    have hr := hs r (by simp)
    have hb := hv r hr
    obtain ⟨s1, s2, s3⟩ := rnd_keep hv hc l' (stp o r) (fun x hx => hs x (by simp [hx])) (h.stp hv hr)
    obtain ⟨t1, t2⟩ := stp_keep h hv hc hr
    refine ⟨s1, fun v h0 h1 e => s2 v h0 h1 (t1 v h0 h1 e), fun x hx q => ?_⟩
    rcases List.mem_cons.1 hx with e | e
    · subst e
      have := t2 q
      exact ⟨s2 _ hb.1 hb.2.1 this.1, s2 _ hb.2.2.1 hb.2.2.2 this.2⟩
    · have hx' := hv x (hs x hx)
      refine s3 x e (q.imp (t1 _ hx'.1 hx'.2.1) (t1 _ hx'.2.2.1 hx'.2.2.2))
theorem rnds_full {n : Int} {l : List Run} {c : Int} (hv : VL n l) (hc0 : 0 ≤ c ∧ c < n) (hc : ∀ v, 0 ≤ v → v < n → Lk l c v → c ≤ v) {o : List Int} (h : Sd n l o) (ho : rd o c = c) : ∀ j : Nat,
    Sd n l (rnds l j o) ∧ rd (rnds l j o) c = c ∧ ((∀ v, Lk l c v → rd (rnds l j o) v = c) ∨ j + 1 ≤ (rnds l j o).count c)
  | 0 => ⟨h, ho, .inr (count_pos_rd c o c hc0.1 (by have := h.len; omega) ho)⟩
  | j + 1 => by
    obtain ⟨i1, i2, i3⟩ := rnds_full hv hc0 hc h ho j
    obtain ⟨s1, s2, s3⟩ := rnd_keep hv hc l (rnds l j o) (fun _ h => h) i1
    refine ⟨s1, s2 c hc0.1 hc0.2 i2, ?_⟩
    rcases i3 with i3 | i3
    · exact .inl fun v k => s2 v (k.range hv hc0).1 (k.range hv hc0).2 (i3 v k)
    · by_cases q : ∀ v, 0 ≤ v → v < n → rd (rnd l (rnds l j o)) v = c → rd (rnds l j o) v = c
      · refine .inl fun v k => s2 v (k.range hv hc0).1 (k.range hv hc0).2 ?_
        have : ∀ r ∈ l, (rd (rnds l j o) r.f0 = c) = (rd (rnds l j o) r.f1 = c) := fun r hr => by
          have hb := hv r hr
          refine propext ⟨fun e => q _ hb.2.2.1 hb.2.2.2 (s3 r hr (.inl e)).2, fun e => q _ hb.1 hb.2.1 (s3 r hr (.inr e)).1⟩
        have e := k.const (fun x => rd (rnds l j o) x = c) this
        exact e.mp i2
      · right
        have : ∃ v, 0 ≤ v ∧ v < n ∧ rd (rnd l (rnds l j o)) v = c ∧ rd (rnds l j o) v ≠ c := by
          refine Classical.byContradiction fun w => q fun v h0 h1 e => Classical.byContradiction fun e' => w ⟨v, h0, h1, e, e'⟩
        obtain ⟨v, h0, h1, e, e'⟩ := this
        have hl := i1.len
        have hl' := s1.len
        have := count_lt_rd c (rnds l j o) (rnd l (rnds l j o)) (by omega) (fun v a b => s2 v a (by omega)) v h0 (by omega) e' e
        show j + 1 + 1 ≤ (rnd l (rnds l j o)).count c
        omega
theorem rnds_least {n : Int} {l : List Run} (hn : 0 ≤ n) (hv : VL n l) : rnds l n.toNat (iota n) = leastR n l := by
  have L := leastR_lst hn l hv
  have hl := L.len
  have S0 : Sd n l (iota n) := ⟨iota_len n hn, fun v h0 h1 => by rw [rd_iota n v h0 h1]; exact .refl _⟩
  have hlen : ((rnds l n.toNat (iota n)).length : Int) = n := by
    have : ∀ j, ((rnds l j (iota n)).length : Int) = n := by
      intro j
      induction j with
      | zero => exact iota_len n hn
      | succ j ih =>
        have : ∀ (l' : List Run) (o : List Int), (rnd l' o).length = o.length := by
          intro l'
          induction l' with
          | nil => intro o; rfl
          | cons r l' ih => intro o; exact (ih _).trans (by simp [stp])
        rw [rnds, this]; exact ih
    exact this _
  refine ext_rd (by omega) fun v h0 h1 => ?_
  have hv1 : v < n := by omega
  have c0 := L.nn v h0 hv1
  have c1 := L.le v h0 hv1
  have hc : ∀ u, 0 ≤ u → u < n → Lk l (rd (leastR n l) v) u → rd (leastR n l) v ≤ u := fun u u0 u1 k => by
    have e := k.const (rd (leastR n l)) L.cl
    have e2 := (L.lk v h0 hv1).const (rd (leastR n l)) L.cl
    have := L.le u u0 u1
    omega
  obtain ⟨i1, i2, i3⟩ := rnds_full hv ⟨c0, by omega⟩ hc S0 (rd_iota n _ c0 (by omega)) n.toNat
  rcases i3 with i3 | i3
  · exact i3 v (L.lk v h0 hv1)
  · have := List.count_le_length (a := rd (leastR n l) v) (l := rnds l n.toNat (iota n))
    omega
end Go.Proofs.Ytmcfhmflncghiaa.Pure
namespace Go.Proofs.Ytmcfhmflncghiaa.LinkW
open Go.RowKit Go.WideMaps Go.Maps Go.Proofs.Ytmcfhmflncghiaa.Q Go.Proofs.Ytmcfhmflncghiaa.Pure Go.Proofs.YtmcfhmflncghiaaW.PrintWords Go.Proofs.YtmcfhmflncghiaaW.PrintLast Go.Proofs.YtmcfhmflncghiaaW.PrintMore
set_option linter.unusedVariables false
set_option linter.unusedSimpArgs false
theorem info_int : (Try.prog.info? 3).map (fun i => (i.zero, i.size, i.bytes)) = some (some (.int .i64 0), 1, 8) := by kernel_rfl
theorem zeroS (w : World) : (zeroValue 27).run Try.prog w = .ok (.slice none 0 0) w := by kernel_rfl
theorem keyI : Keyed Try.prog 3 := int_keyed Try.underlying3
/-- A run laid in a variable. -/
def put4 (w : World) (g : Nat) (a b c d : Int) : World := (((w.setCell ⟨g, 0, none⟩ (.int .i64 a)).setCell ⟨g, 1, none⟩ (.int .i64 b)).setCell ⟨g, 2, none⟩ (.int .i64 c)).setCell ⟨g, 3, none⟩ (.int .i64 d)
theorem put4_blk {w : World} {g : Nat} {a b c d : Int} {t : TypeId} (h : w.heap[g]? = some (.cells #[.int .i64 0, .int .i64 0, .int .i64 0, .int .i64 0] t (0, 0))) : (put4 w g a b c d).heap[g]? = some (.cells #[.int .i64 a, .int .i64 b, .int .i64 c, .int .i64 d] t (0, 0)) := by
  unfold put4
  refine blk_put (cs := #[.int .i64 a, .int .i64 b, .int .i64 c, .int .i64 0]) ?_ 3 _ rfl
  refine blk_put (cs := #[.int .i64 a, .int .i64 b, .int .i64 0, .int .i64 0]) ?_ 2 _ rfl
  refine blk_put (cs := #[.int .i64 a, .int .i64 0, .int .i64 0, .int .i64 0]) ?_ 1 _ rfl
  exact blk_put h 0 _ rfl
theorem put4_below {B : Nat} {w w1 : World} {g : Nat} {a b c d : Int} (h : Below B w w1) (hg : B ≤ g) : Below B w (put4 w1 g a b c d) :=
  (((h.setCell (p := ⟨g, 0, none⟩) hg _).setCell (p := ⟨g, 1, none⟩) hg _).setCell (p := ⟨g, 2, none⟩) hg _).setCell (p := ⟨g, 3, none⟩) hg _
theorem meas_up {n i : Nat} (h : i < n) (e : wrap64 ((i : Int) + 1) = ((i + 1 : Nat) : Int)) : n - (intOf (.int .i64 (wrap64 ((i : Int) + 1)))).toNat < n - (intOf (.int .i64 (i : Int))).toNat := by
  rw [e]
  show n - (i + 1) < n - i
  omega
theorem meas_up2 {n i : Nat} (h : i < n) : n - (intOf (.int .i64 ((i : Int) + 1))).toNat < n - (intOf (.int .i64 (i : Int))).toNat := by
  show n - (i + 1) < n - i
  omega
theorem take_rd (l : List Run) (i : Nat) (h : i < l.length) : l.take (i + 1) = l.take i ++ [rd_T32 l i] := by
  rw [List.take_add_one, List.getElem?_eq_getElem h]
  simp [rd_T32, h]
/-! what the map says -/
def adjD (ds : List (Int × Int)) (v : Int) : List Int := (ds.filter fun p => p.1 = v).map (·.2)
def dirs (l : List Run) : List (Int × Int) := l.flatMap fun r => [(r.f0, r.f1), (r.f1, r.f0)]
theorem adjD_snoc (ds : List (Int × Int)) (a b v : Int) : adjD (ds ++ [(a, b)]) v = adjD ds v ++ (if a = v then [b] else []) := by
  unfold adjD
  rw [List.filter_append, List.map_append]
  by_cases h : a = v
  · simp [h]
  · simp [h]
theorem adjD_len (ds : List (Int × Int)) (v : Int) : (adjD ds v).length ≤ ds.length := by
  unfold adjD; rw [List.length_map]; exact List.length_filter_le _ _
theorem dirs_snoc (l : List Run) (r : Run) : dirs (l ++ [r]) = (dirs l ++ [(r.f0, r.f1)]) ++ [(r.f1, r.f0)] := by simp [dirs]
theorem dirs_len (l : List Run) : (dirs l).length = 2 * l.length := by
  induction l with
  | nil => rfl
  | cons r l ih =>
    have : dirs (r :: l) = [(r.f0, r.f1), (r.f1, r.f0)] ++ dirs l := by simp [dirs]
    rw [this, List.length_append, ih]; simp; omega
section
variable {H : Type}
def dat (zs : List Int) : DataW H := if zs = [] then .nil else .slice (ChangeShapes.lits .i64 zs) []
def NB (D : DataW H) (ds : List (Int × Int)) : Prop := IsMap D ∧ ∀ v : Int, (Lit.int .i64 v).wf = true → D.atKey (.int .i64 v) .nil = dat (adjD ds v)
theorem NB.nil : NB (H := H) (.map []) [] := ⟨isMap_empty, fun v _ => by simp [DataW.atKey, dat, adjD]⟩
theorem lits_inj {a b : List Int} (h : ChangeShapes.lits (H := H) .i64 a = ChangeShapes.lits .i64 b) : a = b := by
  refine (List.map_inj_right (f := fun z : Int => (DataW.lit (.int .i64 z) : DataW H)) (fun x y hxy => ?_)).1 h
  simpa using hxy
theorem NB.read {D : DataW H} {ds : List (Int × Int)} (h : NB D ds) {v : Int} (hw : (Lit.int .i64 v).wf = true) {w : World} {base : Nat} {val : Value} {zs : List Int} (ho : w.ownsInts base 3 .i64 val zs) (hat : D.atKey (.int .i64 v) .nil = rowDatum .i64 val zs) : zs = adjD ds v := by
  rw [h.2 v hw] at hat
  unfold dat at hat
  rcases ho.datum (H := H) with ⟨h1, h2⟩ | h1 <;> rw [h1] at hat
  · split at hat
    · next q => rw [h2, q]
    · cases hat
  · split at hat
    · cases hat
    · have := lits_inj (by simpa using hat)
      exact this.symm
theorem NB.put {D : DataW H} {ds : List (Int × Int)} (h : NB D ds) {a b : Int} (ha : (Lit.int .i64 a).wf = true) : NB (D.put (.int .i64 a) (.slice (ChangeShapes.lits .i64 (adjD ds a ++ [b])) [])) (ds ++ [(a, b)]) := by
  refine ⟨h.1.put _ _, fun v hv => ?_⟩
  rw [adjD_snoc]
  by_cases e : a = v
  · subst e
    rw [atKey_put_same h.1 (by simp [WideAt.IsKeyLit]), if_pos rfl]
    simp [dat]
  · rw [atKey_put_other (by intro q; injection q with _ q; exact e q.symm), if_neg e, List.append_nil]
    exact h.2 v hv
end
theorem grown_of_below {w w1 : World} (h : Below w.heap.size w w1) : w.grownBy w1 none := ⟨h.os, h.tape, h.output, h.size, fun i hi _ => h.block i hi⟩
theorem put4_grown {w w1 : World} {g : Nat} {a b c d : Int} (h : Below w.heap.size w w1) (hg : w.heap.size ≤ g) : w.grownBy (put4 w1 g a b c d) none := grown_of_below (put4_below h hg)
/-- What a round keeps: the map, the neighbours so far, and that no row of theirs is the variable's block. -/
structure Gr {H : Type} (W : World) (B n : Nat) (ds : List (Int × Int)) (g : Nat) (D : DataW H) : Prop where
  own : W.ownsGroups (H := H) Try.prog 3 (B + 1) 3 .i64 B n D
  nb : NB D ds
  sh : W.Shuns B (fun k => k = g)
  lt : g < W.heap.size
  ne : g ≠ B
theorem isK {v : Value} {l : Lit} (h : keyOf Try.prog 3 v = some l) : MapKept.IsKey (.int .i64) v := by
  have h2 : mapKey Try.prog 3 v = some l := by simpa [keyOf, Try.underlying3] using h
  obtain ⟨d', hd', h1, _⟩ := WideShapes.mapKey_isKey h2
  rw [Try.underlying3] at hd'
  cases hd'
  exact h1
/-- A look-up reads the map's block alone. -/
theorem look_same {w w' : World} {b : Nat} {es : Array MapEntry} {clock : Nat} (hb : w.heap[b]? = some (.map es clock)) (hb' : w'.heap[b]? = some (.map es clock)) (hkeys : ∀ x ∈ es.toList, ∃ l, keyOf Try.prog 3 x.key = some l) {a : Int} (ha : (Lit.int .i64 a).wf = true) {v : Value}
    (h : (Instr.lookup 62 (.map (some b)) (.int .i64 a) false).run Try.prog w = .ok v w) : (Instr.lookup 62 (.map (some b)) (.int .i64 a) false).run Try.prog w' = .ok v w' := by
  have hkey : keyOf Try.prog 3 (.int .i64 a) = some (.int .i64 a) := keyOf_int_mk Try.underlying3 ha
  have hks : ∀ y ∈ es.toList, MapKept.IsKey (.int .i64) y.key := fun y hy => by
    obtain ⟨l, hl⟩ := hkeys y hy
    exact isK hl
  rcases MapKept.findNow_spec (isK hkey) es.toList 0 hks with ⟨h1, _⟩ | ⟨j, e0, h1, _, _⟩
  · have f := fun x : World => MapKept.run_findKey (w := x) Try.underlying3 h1
    have e1 : ∀ x : World, x.heap[b]? = some (.map es clock) → (Instr.lookup 62 (.map (some b)) (.int .i64 a) false).run Try.prog x = .ok (.slice none 0 0) x := fun x hx => by
      simp [Instr.lookup, run_underlying Try.underlying62, MapKept.run_getObj_map hx, keyI.check x _ hkey, f x, zeroS x, Result.andThen]
    rw [e1 w hb] at h
    obtain rfl : Value.slice none 0 0 = v := by simpa using h
    exact e1 w' hb'
  · have f := fun x : World => MapKept.run_findKey (w := x) Try.underlying3 h1
    have e1 : ∀ x : World, x.heap[b]? = some (.map es clock) → (Instr.lookup 62 (.map (some b)) (.int .i64 a) false).run Try.prog x = .ok e0.val x := fun x hx => by
      simp [Instr.lookup, run_underlying Try.underlying62, MapKept.run_getObj_map hx, keyI.check x _ hkey, f x, Result.andThen]
    rw [e1 w hb] at h
    obtain rfl : e0.val = v := by simpa using h
    exact e1 w' hb'
/-- What one look-up, append and store of a round need. -/
structure Ask {H : Type} (W : World) (B n : Nat) (ds : List (Int × Int)) (g : Nat) (D : DataW H) (a : Int) (v : Value) : Prop where
  run : ∀ W' : World, W'.heap[B]? = W.heap[B]? → (Instr.lookup 62 (.map (some B)) (.int .i64 a) false).run Try.prog W' = .ok v W'
  own : W.ownsInts (B + 1) 3 .i64 v (adjD ds a)
  off : v.ownBlock ≠ some g
  back : W.groupBack (H := H) Try.prog 62 3 (B + 1) 3 .i64 B n D (.int .i64 a) (.int .i64 a) v
theorem Gr.ask {H : Type} {W : World} {B n : Nat} {ds : List (Int × Int)} {g : Nat} {D : DataW H} (h : Gr W B n ds g D) (hn : n < maxLen) (a : Int) (ha : (Lit.int .i64 a).wf = true) : ∃ v, Ask W B n ds g D a v := by
  have hk : keyOf Try.prog 3 (.int .i64 a) = some (.int .i64 a) := keyOf_int_mk Try.underlying3 ha
  have hd : (W.drew).ownsGroups (H := H) Try.prog 3 (B + 1) 3 .i64 B n D := h.own
  obtain ⟨v, zs, hrun, hat, hoi, hzl, hback⟩ := hd.at keyI Try.underlying62 (zeroS _) hn hk
  obtain rfl := h.nb.read ha hoi hat
  refine ⟨v, fun W' hW => ?_, hoi, ?_, fun w1 v' zs' hg => hback w1 v' zs' ⟨hg.os, hg.tape, hg.output, hg.size, hg.block⟩⟩
  · obtain ⟨es, clock, hb, F, _⟩ := hd
    exact look_same hb (hW.trans hb) F.keys ha hrun
  obtain ⟨es, clock, hb, F, _⟩ := hd
  rcases Maps.fit_look false keyI Try.underlying62 (zeroS _) hb F hk with ⟨hrun', _, _⟩ | ⟨e0, y, hm0, _, hrun', _, _, _⟩
  · rw [hrun] at hrun'
    obtain rfl : v = .slice none 0 0 := by simpa using hrun'
    intro hg'
    cases hg'
  · rw [hrun] at hrun'
    obtain rfl : v = e0.val := by simpa using hrun'
    exact fun hg' => h.sh es clock hb e0 hm0 g hg' rfl
/-- Behind the append: the store is known, and what it leaves. -/
theorem Ask.store {H : Type} {W W1 : World} {B n : Nat} {ds : List (Int × Int)} {g : Nat} {D : DataW H} {a b : Int} {v : Value} (h : Ask W B n ds g D a v) (hG : Gr W B n ds g D) (hn : n < maxLen) (ha : (Lit.int .i64 a).wf = true) (hbw : (Lit.int .i64 b).wf = true) (hds : ds.length ≤ n) {gg cap : Nat}
    (hown : W1.ownsRow (B + 1) 3 1 (.slice (some ⟨gg, 0, none⟩) ((adjD ds a).length + 1) cap) ((adjD ds a).length + 1) ((adjD ds a).map (Value.int .i64) ++ [.int .i64 b])) (hgr : W.grownBy W1 v.ownBlock) (hat : v.ownBlock = some gg ∨ gg = W.heap.size + 1) :
    ∃ (w2 : World) (D2 : DataW H), (Instr.mapUpdate 62 (.map (some B)) (.int .i64 a) (.slice (some ⟨gg, 0, none⟩) ((adjD ds a).length + 1) cap)).run Try.prog W1 = .ok () w2 ∧ Gr w2 B (n + 1) (ds ++ [(a, b)]) g D2 ∧ (∀ p x, p.block = g → W.cell? p = some x → w2.cell? p = some x) ∧ ∀ X, Below X W W → X ≤ W.heap.size → X ≤ B → Below X W w2 := by
  have hk : keyOf Try.prog 3 (.int .i64 a) = some (.int .i64 a) := keyOf_int_mk Try.underlying3 ha
  have ho2 := h.own.appended hown hbw
  have hlen := adjD_len ds a
  have hloc : (Value.slice (some ⟨gg, 0, none⟩) ((adjD ds a).length + 1) cap).ownBlock = v.ownBlock ∨ ∃ k, (Value.slice (some ⟨gg, 0, none⟩) ((adjD ds a).length + 1) cap).ownBlock = some k ∧ W.heap.size ≤ k := by
    rcases hat with q | q
    · exact .inl (by rw [q]; rfl)
    · exact .inr ⟨gg, rfl, by omega⟩
  have hg1 : gg ≠ g := by
    rcases hat with q | q
    · intro e; subst e; exact h.off q
    · have := hG.lt; omega
  obtain ⟨w2, hrun, r1, r2⟩ := h.back W1 _ _ hgr ho2 (by simp; omega) hloc
  have r3 : w2.Shuns B (fun k => k = g) := by
    obtain ⟨es, clock, hb, F, hs, _, hbb, _⟩ := hG.own
    have hblt : B < W.heap.size := (Array.getElem?_eq_some_iff.1 hb).1
    have hb1 : W1.heap[B]? = some (.map es clock) := (hgr.block B hblt (fun e1 => by have := (h.own.1.lt B e1.symm).1; omega)).trans hb
    obtain ⟨es', clock', hb2, hwho⟩ := stored_who keyI Try.underlying62 hb1 F (Nat.lt_of_le_of_lt hs hn) hk hrun
    intro es2 clock2 hb2' y hy k hyk
    obtain ⟨rfl, rfl⟩ : es' = es2 ∧ clock' = clock2 := by rw [hb2] at hb2'; simpa using hb2'
    rcases hwho y hy with ⟨hy0, _⟩ | ⟨_, hval⟩
    · exact hG.sh es clock hb y hy0 k hyk
    · rw [hval] at hyk
      have : gg = k := by simpa [Value.ownBlock] using hyk
      omega
  refine ⟨w2, _, hrun, ⟨r1, ?_, r3, by have := hG.lt; have := hgr.size; have := r2.size; omega, hG.ne⟩, fun p x hp hx => ?_, fun X hX hX1 hX2 => ?_⟩
  · rw [ho2.datum_pos (by simp)]
    exact hG.nb.put ha
  · have l0 : p.block < W.heap.size := by rw [hp]; exact hG.lt
    rw [r2.cell_far p (by have := hgr.size; omega) (by rw [hp]; simpa using hG.ne), hgr.cell_far p l0 (by rw [hp]; exact Ne.symm h.off)]
    exact hx
  · exact (hX.grown hgr hX1 (fun j hj => by have := (h.own.1.lt j hj).1; omega)).grown r2 (Nat.le_trans hX1 hgr.size) (fun j hj => by cases hj; exact hX2)
theorem gr_box {H : Type} {w wr w29 : World} {B n gb : Nat} {ds : List (Int × Int)} {D : DataW H} (hg : gb = wr.heap.size) (hbox : w29.heap[gb]? = some (.cells #[.int .i64 0, .int .i64 0, .int .i64 0, .int .i64 0] 32 (0, 0))) (hb : Below wr.heap.size wr w29)
    (HG : (wr.ownsGroups (H := H) Try.prog 3 (B + 1) 3 .i64 B n D ∧ NB D ds) ∧ B + 1 ≤ wr.heap.size) (hW : Below w.heap.size w wr) (a b c d : Int) :
    Gr (put4 w29 gb a b c d) B n ds gb D ∧ (put4 w29 gb a b c d).heap[gb]? = some (.cells #[.int .i64 a, .int .i64 b, .int .i64 c, .int .i64 d] 32 (0, 0)) ∧ Below w.heap.size w (put4 w29 gb a b c d) := by
  obtain ⟨⟨ho, hn⟩, hB⟩ := HG
  have hgr : wr.grownBy (put4 w29 gb a b c d) none := put4_grown hb (by omega)
  have hB2 := put4_blk (a := a) (b := b) (c := c) (d := d) hbox
  have hs : wr.Shuns B (fun k => k = gb) := (show wr.Shuns B (fun _ => False) from fun _ _ _ _ _ _ _ h => h).reno ho (fun g q => .inr (by omega))
  refine ⟨⟨ho.kept hgr (by simp) (ho.rowsAbove (by simp)), hn, hs.kept hgr (by omega) (by simp), (Array.getElem?_eq_some_iff.1 hB2).1, by omega⟩, hB2, ?_⟩
  exact put4_below (hW.trans (hb.mono hW.size)) (by have := hW.size; omega)
set_option maxHeartbeats 8000000 in
set_option maxRecDepth 100000 in
theorem neigh_calls {H : Type} (A1 : Option Addr) (c1 : Nat) (l : List Run) (w : World) (hr1 : Kd.C k32 w A1 l.length l) (hc1 : l.length ≤ c1) (hl : l.length ≤ 12) (hwf : ∀ r ∈ l, (Lit.int .i64 r.f0).wf = true ∧ (Lit.int .i64 r.f1).wf = true) :
    Calls Try.prog 46 #[.slice A1 l.length c1] w fun e w' => e = .returned (.map (some w.heap.size)) ∧ ((∃ D, w'.ownsGroups (H := H) Try.prog 3 (w.heap.size + 1) 3 .i64 w.heap.size (2 * l.length) D ∧ NB D (dirs l)) ∧ w.heap.size + 1 ≤ w'.heap.size) ∧ Below w.heap.size w w' := by
  have hmm := @run_makeMap Try.prog
  obtain ⟨i0, hi0, hz0, hz1, hz2⟩ := info_parts info_int
  have HR1 := Aside0.mk hr1
  have HC1 := Aside0.mk hc1
  have HL := Aside0.mk hl
  have HWF := Aside0.mk hwf
  clear hr1 hc1 hl hwf
  go_enter Try.func46, Try.ntmps46
  go_wp2
  go_loopw [9] (fun v9 wr => ∃ i : Nat, i ≤ l.length ∧ v9 = .int .i64 i ∧ Aside0 ((∃ D, wr.ownsGroups (H := H) Try.prog 3 (w.heap.size + 1) 3 .i64 w.heap.size (2 * i) D ∧ NB D (dirs (l.take i))) ∧ w.heap.size + 1 ≤ wr.heap.size) ∧ Aside0 (Below w.heap.size w wr)) (fun v9 _ => l.length - (intOf v9).toNat)
  case atStart => exact ⟨0, Nat.zero_le _, rfl, ⟨⟨_, World.ownsGroups_made _ _ _ _ _, by simpa [dirs] using NB.nil⟩, by simp⟩, ⟨(Below.refl _ _).alloc (Nat.le_refl _) _⟩⟩
  case round =>
    obtain ⟨i, hi, rfl, HG, HW⟩ := hrel
    by_cases hlt : i < l.length
    · have hb2 := HW.out
      obtain ⟨ad, e', x0, x1, x2, x3⟩ := at_T32 HR1.out i (by omega) (by omega)
      subst e'
      rw [Int.toNat_natCast] at x0 x1 x2 x3
      replace x0 := (hb2.cell (World.block_lt_of_cell? w _ x0)).trans x0
      replace x1 := (hb2.cell (World.block_lt_of_cell? w _ x1)).trans x1
      replace x2 := (hb2.cell (World.block_lt_of_cell? w _ x2)).trans x2
      replace x3 := (hb2.cell (World.block_lt_of_cell? w _ x3)).trans x3
      have q0 := eq_true (show (0 : Int) ≤ (i : Int) by omega)
      have q1 := eq_true (show (i : Int) < (l.length : Int) by omega)
      obtain ⟨⟨D, HG0⟩, hB⟩ := HG.out
      clear HG
      have HG := Aside0.mk (And.intro HG0 hB)
      clear HG0 hB
      go_upto_region 5 with (first | ((with_reducible refine gate_dst (N := 5) rfl ?_); (try (refine gate_guard (by rfl) ?_; dsimp only)); refine box_event ?hg (N := 5) ?hd (cs := #[.int .i64 0, .int .i64 0, .int .i64 0, .int .i64 0]) (t := 32) ?hr ?_; (case hd => rfl); (case hg => rfl); (case hr => exact qq16); intro gb hg w29 hbox hb; have KK := Aside0.mk (gr_box hg hbox hb HG.out hb2 (rd_T32 l i).f0 (rd_T32 l i).f1 (rd_T32 l i).f2 (rd_T32 l i).f3); have hcz0 : w29.cell? ⟨gb, 0, none⟩ = some (.int .i64 0) := (blk_cell hbox 0).trans rfl; have hcz1 : w29.cell? ⟨gb, 1, none⟩ = some (.int .i64 0) := (blk_cell hbox 1).trans rfl; have hcz2 : w29.cell? ⟨gb, 2, none⟩ = some (.int .i64 0) := (blk_cell hbox 2).trans rfl; have hcz3 : w29.cell? ⟨gb, 3, none⟩ = some (.int .i64 0) := (blk_cell hbox 3).trans rfl; have hfz0 := blk_frozen hbox 0; have hfz1 := blk_frozen hbox 1; have hfz2 := blk_frozen hbox 2; have hfz3 := blk_frozen hbox 3; clear hbox hb hg))
      clear hcz0 hcz1 hcz2 hcz3 hfz0 hfz1 hfz2 hfz3 x0 x1 x2 x3 hb2 HW HG
      replace KK := KK.out
      unfold put4 at KK
      generalize ((((w29.setCell ⟨gb, 0, none⟩ (.int .i64 (rd_T32 l i).f0)).setCell ⟨gb, 1, none⟩ (.int .i64 (rd_T32 l i).f1)).setCell ⟨gb, 2, none⟩ (.int .i64 (rd_T32 l i).f2)).setCell ⟨gb, 3, none⟩ (.int .i64 (rd_T32 l i).f3)) = w4 at KK ⊢
      obtain ⟨KG, Kblk, Kbe⟩ := KK
      have hT : l.take (i + 1) = l.take i ++ [rd_T32 l i] := take_rd l i hlt
      have e9 : wrap64 ((i : Int) + 1) = ((i + 1 : Nat) : Int) := by rw [nw64 (by omega) (by have := HL.out; omega)]; omega
      have hmem : rd_T32 l i ∈ l := by simp [rd_T32, hlt]
      have hwfi := HWF.out _ hmem
      have hds : (dirs (l.take i)).length ≤ 2 * i := by rw [dirs_len]; simp; omega
      have hlen1 := adjD_len (dirs (l.take i)) (rd_T32 l i).f0
      have hl12 := HL.out
      obtain ⟨v, hA⟩ := KG.ask (by unfold maxLen; omega) (rd_T32 l i).f0 hwfi.1
      have k0 : w4.cell? ⟨gb, 0, none⟩ = some (.int .i64 (rd_T32 l i).f0) := (blk_cell Kblk 0).trans rfl
      have k1 : w4.cell? ⟨gb, 1, none⟩ = some (.int .i64 (rd_T32 l i).f1) := (blk_cell Kblk 1).trans rfl
      have hrun := hA.run w4.drew rfl
      have hBlt : w.heap.size < w4.heap.size := by obtain ⟨es, clock, hb, _⟩ := KG.own; exact (Array.getElem?_eq_some_iff.1 hb).1
      have hruna := hA.run (w4.alloc (.cells #[.int .i64 (rd_T32 l i).f1] 3)).drew (heap_alloc_old w4 _ hBlt)
      have hbB : gb ≠ w.heap.size := KG.ne
      have hsz : w.heap.size + 1 ≤ w4.heap.size := by omega
      have HA := Aside0.mk hA
      have HKG := Aside0.mk KG
      have HKbe := Aside0.mk Kbe
      have HWFi := Aside0.mk hwfi
      clear hA KG Kbe hwfi
      go_region_held_law (fun w' => w'.cell? ⟨gb, 0, none⟩ = some (.int .i64 (rd_T32 l i).f0) ∧ w'.cell? ⟨gb, 1, none⟩ = some (.int .i64 (rd_T32 l i).f1))
        (first
          | (go_split_ands; refine ⟨by go_keep, by go_keep⟩)
          | (go_split_ands; exact ⟨m0, m1⟩)
          | (go_split_ands; refine ⟨?_, ?_⟩ <;> (rw [hgrow.cell_far _ (by simp; have := HKG.out.lt; omega) (Ne.symm HA.out.off)]; assumption)))
        ((refine step_append_lies _ (by rfl) _ _ _ (by rfl) (w.heap.size + 1) 3 i0 _ 1 8 Try.underlying27 hi0 hz0 hz1 hz2 rfl (by omega) v (adjD (dirs (l.take i)) (rd_T32 l i).f0).length ((adjD (dirs (l.take i)) (rd_T32 l i).f0).map (Value.int .i64)) (by rfl) ((HA.out.own.1.alloc _).drew)
            ⟨w4.heap.size, 0, none⟩ 1 1 [.int .i64 (rd_T32 l i).f1] (by rfl) (by rfl) (World.news_of_block (cs := #[.int .i64 (rd_T32 l i).f1]) (t := 3) (fr := (0, 0)) (heap_alloc_new w4 _)) (by simp [Value.oneCell'])
            (by omega) (by unfold maxLen; omega) (by omega) (by simp; omega) (w4.heap.size + 1) (by simp) ?_; intro gg cap w1 hown1 hgrow hat hlt1; obtain ⟨w2, D2, hrun2, hG2, hce, hbe⟩ := HA.out.store HKG.out (by unfold maxLen; omega) HWFi.out.1 HWFi.out.2 hds hown1 ((World.grownBy_alloc w4 _ _).trans ⟨hgrow.os, hgrow.tape, hgrow.output, hgrow.size, hgrow.block⟩) hat; have m0 := hce ⟨gb, 0, none⟩ _ rfl k0; have m1 := hce ⟨gb, 1, none⟩ _ rfl k1))
      all_goals (
        go_upto_region 6 with (fail)
        have hds2 : (dirs (l.take i) ++ [((rd_T32 l i).f0, (rd_T32 l i).f1)]).length ≤ 2 * i + 1 := by rw [List.length_append]; simp; omega
        have hlen2 := adjD_len (dirs (l.take i) ++ [((rd_T32 l i).f0, (rd_T32 l i).f1)]) (rd_T32 l i).f1
        clear k0 k1 hrun hruna hBlt hbB hsz HKG HA
        obtain ⟨v, hA⟩ := hG2.ask (by unfold maxLen; omega) (rd_T32 l i).f1 HWFi.out.2
        have hrunb := hA.run w2.drew rfl
        have hBlt2 : w.heap.size < w2.heap.size := by obtain ⟨es, clock, hb, _⟩ := hG2.own; exact (Array.getElem?_eq_some_iff.1 hb).1
        have hrunc := hA.run (w2.alloc (.cells #[.int .i64 (rd_T32 l i).f0] 3)).drew (heap_alloc_old w2 _ hBlt2)
        have hbB2 : gb ≠ w.heap.size := hG2.ne
        have hsz2 : w.heap.size + 1 ≤ w2.heap.size := by omega
        have HA2 := Aside0.mk hA
        have HKG2 := Aside0.mk hG2
        clear hA hG2
        go_region_held_law (fun w' => w'.cell? ⟨gb, 0, none⟩ = some (.int .i64 (rd_T32 l i).f0) ∧ w'.cell? ⟨gb, 1, none⟩ = some (.int .i64 (rd_T32 l i).f1))
          (first
            | (go_split_ands; refine ⟨by go_keep, by go_keep⟩)
            | (go_split_ands; exact ⟨n0, n1⟩)
            | (go_split_ands; refine ⟨?_, ?_⟩ <;> (rw [hgrow.cell_far _ (by simp; have := HKG2.out.lt; omega) (Ne.symm HA2.out.off)]; assumption)))
          ((refine step_append_lies _ (by rfl) _ _ _ (by rfl) (w.heap.size + 1) 3 i0 _ 1 8 Try.underlying27 hi0 hz0 hz1 hz2 rfl (by omega) v (adjD (dirs (l.take i) ++ [((rd_T32 l i).f0, (rd_T32 l i).f1)]) (rd_T32 l i).f1).length ((adjD (dirs (l.take i) ++ [((rd_T32 l i).f0, (rd_T32 l i).f1)]) (rd_T32 l i).f1).map (Value.int .i64)) (by rfl) ((HA2.out.own.1.alloc _).drew)
              ⟨w2.heap.size, 0, none⟩ 1 1 [.int .i64 (rd_T32 l i).f0] (by rfl) (by rfl) (World.news_of_block (cs := #[.int .i64 (rd_T32 l i).f0]) (t := 3) (fr := (0, 0)) (heap_alloc_new w2 _)) (by simp [Value.oneCell'])
              (by omega) (by unfold maxLen; omega) (by omega) (by simp; omega) (w2.heap.size + 1) (by simp) ?_; intro gg cap w1 hown1 hgrow hat hlt1; obtain ⟨w3, D3, hrun3, hG3, hce3, hbe3⟩ := HA2.out.store HKG2.out (by unfold maxLen; omega) HWFi.out.2 HWFi.out.1 hds2 hown1 ((World.grownBy_alloc w2 _ _).trans ⟨hgrow.os, hgrow.tape, hgrow.output, hgrow.size, hgrow.block⟩) hat; have n0 := hce3 ⟨gb, 0, none⟩ _ rfl m0; have n1 := hce3 ⟨gb, 1, none⟩ _ rfl m1))
        all_goals (
          go_wp2
          go_roundw
          case rel =>
            refine ⟨i + 1, by omega, by first | rfl | rw [e9], ⟨⟨D3, hG3.own, ?_⟩, ?_⟩, ⟨(HKbe.out.trans (hbe _ (Below.refl _ _) HKbe.out.size (Nat.le_refl _))).trans (hbe3 _ (Below.refl _ _) (by omega) (Nat.le_refl _))⟩⟩
            · rw [hT, dirs_snoc]; exact hG3.nb
            · obtain ⟨es, clock, hb, _⟩ := hG3.own; exact (Array.getElem?_eq_some_iff.1 hb).1
          case measure => first | exact meas_up2 hlt | exact meas_up hlt e9))
    · obtain rfl : i = l.length := by omega
      go_wp2
      go_ret
      have h := HG.out
      rw [List.take_length] at h
      exact ⟨rfl, h, HW.out⟩
end Go.Proofs.Ytmcfhmflncghiaa.LinkW
namespace Go.Proofs.Ytmcfhmflncghiaa.LinkW
open Go.RowKit Go.Proofs.Ytmcfhmflncghiaa.Q Go.Proofs.Ytmcfhmflncghiaa.Pure Go.Proofs.YtmcfhmflncghiaaW.PrintWords Go.Proofs.YtmcfhmflncghiaaW.PrintLast Go.Proofs.YtmcfhmflncghiaaW.PrintMore
set_option linter.unusedVariables false
set_option linter.unusedSimpArgs false
theorem mul_one (n : Nat) (h : 2 ≤ n ∧ n ≤ 6) : bits_Mul.f 1 (n : Int) = some (0, (n : Int)) := by
  obtain rfl | rfl | rfl | rfl | rfl : n = 2 ∨ n = 3 ∨ n = 4 ∨ n = 5 ∨ n = 6 := by omega
  all_goals rfl
theorem wrap_u (n : Nat) (h : n ≤ 6) : IntKind.u64.wrap (n : Int) = n := by
  obtain rfl | rfl | rfl | rfl | rfl | rfl | rfl : n = 0 ∨ n = 1 ∨ n = 2 ∨ n = 3 ∨ n = 4 ∨ n = 5 ∨ n = 6 := by omega
  all_goals rfl
theorem made_eq (n : Nat) : madeCells #[Value.int .i64 0] n = Array.replicate n (Value.int .i64 0) := by
  have := toList_madeCells_one (Value.int .i64 0) n
  apply Array.toList_inj.1
  rw [this]; simp
theorem size_int : (Try.prog.info? 3).map (·.size) = some 1 := by kernel_rfl
theorem new_row (w : World) (nd n : Nat) : ((w.drewN nd).alloc (.cells (Array.replicate n (Value.int .i64 0)) 3)).heap[w.heap.size]? = some (.cells (List.replicate n (Value.int .i64 0)).toArray 3 (0, 0)) := by
  have := heap_alloc_new (w.drewN nd) (.cells (Array.replicate n (Value.int .i64 0)) 3)
  simpa using this
theorem new_cell {w : World} {a : Addr} {v : Value} (hx : w.cell? a = some v) (nd : Nat) (o : Obj) : ((w.drewN nd).alloc o).cell? a = some v := by
  have h0 : (w.drewN nd).cell? a = some v := by simpa using hx
  exact (World.cell?_of_block (heap_alloc_old (w.drewN nd) o (World.block_lt_of_cell? _ a h0))).trans h0
theorem one_src {w : World} {a : Addr} {v : Value} (h : w.cell? a = some v) : ∀ (j : Nat) (x : Value), [v][j]? = some x → w.cell? (a.add j) = some x := by
  intro j x hj
  match j, hj with
  | 0, hj =>
    simp at hj
    subst hj
    simpa [Addr.add] using h
structure Halt1 (p : Prop) : Prop where
  out : p
/-- The row so far. -/
def row2 (n m : Nat) : List Value := List.replicate m (.int .i64 (-1)) ++ List.replicate (n - m) (.int .i64 0)
theorem row2_one (n : Nat) (h : 1 ≤ n) : row2 n 1 = splice (List.replicate n (Value.int .i64 0)) 0 [.int .i64 (-1)] := by
  obtain ⟨k, rfl⟩ : ∃ k, n = k + 1 := ⟨n - 1, by omega⟩
  simp [row2, splice]
theorem wrap_add (m k : Nat) (hk : k ≤ 6) (hm : m ≤ 6) : IntKind.i64.wrap ((m : Int) + (k : Int)) = ((m + k : Nat) : Int) := by
  obtain rfl | rfl | rfl | rfl | rfl | rfl | rfl : m = 0 ∨ m = 1 ∨ m = 2 ∨ m = 3 ∨ m = 4 ∨ m = 5 ∨ m = 6 := by omega
  all_goals (obtain rfl | rfl | rfl | rfl | rfl | rfl | rfl : k = 0 ∨ k = 1 ∨ k = 2 ∨ k = 3 ∨ k = 4 ∨ k = 5 ∨ k = 6 := by omega) <;> rfl
theorem row2_len (n m : Nat) (h : m ≤ n) : (row2 n m).length = n := by simp [row2]; omega
theorem row2_step (n m : Nat) (h : m < n) : row2 n (m + min m (n - m)) = splice (row2 n m) m (List.replicate (min m (n - m)) (Value.int .i64 (-1))) := by
  unfold row2 splice
  apply List.ext_getElem
  · simp; omega
  · intro i h1 h2
    simp only [List.getElem_append, List.getElem_replicate, List.length_replicate, List.getElem_take, List.getElem_drop, List.length_take, List.length_append, List.length_drop]
    repeat' split
    all_goals first | rfl | omega
theorem row2_src {W : World} {g n m : Nat} (hg : W.heap[g]? = some (.cells (row2 n m).toArray 3 (0, 0))) (h : m ≤ n) : ∀ (j : Nat) (x : Value), (List.replicate (min m (n - m)) (Value.int .i64 (-1)))[j]? = some x → W.cell? ((⟨g, 0, none⟩ : Addr).add j) = some x := by
  intro j x hj
  rw [List.getElem?_replicate] at hj
  split at hj
  · obtain rfl := Option.some.inj hj
    have e : (⟨g, 0, none⟩ : Addr).add j = ⟨g, j, none⟩ := by
      unfold Addr.add
      split
      · next h => simp_all
      · simp
    rw [e]
    refine (blk_cell hg j).trans ?_
    have : j < (List.replicate m (Value.int .i64 (-1))).length := by simp; omega
    simp [row2, List.getElem?_append_left this, List.getElem?_replicate]
    omega
  · cases hj
set_option maxHeartbeats 4000000 in
set_option maxRecDepth 100000 in
theorem repeat_calls (n gx : Nat) (h : 2 ≤ n ∧ n ≤ 6) (w : World) (hx : w.cell? ⟨gx, 0, none⟩ = some (.int .i64 (-1))) :
    Calls Try.prog 47 #[.slice (some ⟨gx, 0, none⟩) 1 1, .int .i64 n] w fun e w' => ∃ g, e = .returned (.slice (some ⟨g, 0, none⟩) n n) ∧ w'.heap[g]? = some (.cells (List.replicate n (Value.int .i64 (-1))).toArray 3 (0, 0)) ∧ w.heap.size ≤ g ∧ Below w.heap.size w w' := by
  have hM := mul_one n h
  have hu := wrap_u n h.2
  have p0 : decide ((n : Int) < 0) = false := decide_eq_false (by omega)
  have p1 : decide ((9223372036854775807 : Int) < n) = false := decide_eq_false (by omega)
  have hmk := run_make_row' (P := Try.prog) 27 3 (.int .i64 0) 8 Try.underlying27 info_int rfl .i64 .i64 n (by omega) (by omega)
  go_enter Try.func47, Try.ntmps47
  have hmd := made_eq n
  go_wp2_with (first | (go_at_call 63; (with_reducible refine (bits_Mul.calls _ _ _ _ _ hM).mono ?_); rintro e w' ⟨rfl, ⟨nd, rfl⟩⟩) | ((with_reducible refine gate_builtin (b := .copy) (xs := #[.tmp 31, .tmp 32]) rfl ?_); refine Halt1.out ?_))
  refine Halt1.mk ?_
  refine wpList_copy_splice (by rfl) (.tmp 31) (.tmp 32) 27 27 (by rfl) 3 Try.underlying27 size_int (some ⟨w.heap.size, 0, none⟩) (some ⟨gx, 0, none⟩) n n 1 1 (by rfl) (by rfl) w.heap.size 0 (List.replicate n (.int .i64 0)) 3 (new_row w nd n) [.int .i64 (-1)] (by show 1 = min 1 n; omega) (fun _ => ⟨rfl, ⟨gx, 0, none⟩, rfl, one_src (new_cell hx nd _)⟩) (by simp; omega) (by simp [Value.oneCell']) w.heap.size w (below_alloc (pw_below_drewN (Below.refl _ _) _) _) (Nat.le_refl _) ?_
  intro w2 HG2 hB2
  go_wp2
  replace HG2 := Aside0.mk HG2.out
  replace hB2 := Aside0.mk hB2
  go_loopw [8] (fun v8 wr => ∃ m : Nat, 1 ≤ m ∧ m ≤ n ∧ v8 = .int .i64 m ∧ Aside0 (wr.heap[w.heap.size]? = some (.cells (row2 n m).toArray 3 (0, 0))) ∧ Aside0 (Below w.heap.size w wr)) (fun v8 _ => n - (intOf v8).toNat)
  case atStart => exact ⟨1, Nat.le_refl _, by omega, rfl, ⟨by rw [row2_one n (by omega)]; exact HG2.out⟩, hB2⟩
  case round =>
    clear HG2 hB2
    obtain ⟨m, m1, m2, rfl, HG, HB⟩ := hrel
    by_cases hlt : m < n
    · have q0 := eq_true (show (0 : Int) ≤ (m : Int) by omega)
      have q1 := eq_true (show (m : Int) < (n : Int) by omega)
      have q2 := eq_true (show (m : Int) ≤ (n : Int) by omega)
      have hg : (wr.drew).heap[w.heap.size]? = some (.cells (row2 n m).toArray 3 (0, 0)) := HG.out
      have hb : Below w.heap.size w wr.drew := below_drew1 HB.out
      have hlen := row2_len n m m2
      have hmin : (List.replicate (min m (n - m)) (Value.int .i64 (-1))).length = Nat.min m (n - m) := List.length_replicate
      have hfit : m + (List.replicate (min m (n - m)) (Value.int .i64 (-1))).length ≤ (row2 n m).length := by rw [hlen, List.length_replicate]; omega
      have hone : ∀ v ∈ List.replicate (min m (n - m)) (Value.int .i64 (-1)), v.oneCell' = true := by intro v hv; rw [List.eq_of_mem_replicate hv]; rfl
      have hnm : ¬ n = m := by omega
      have hsrc := row2_src hg m2
      generalize hcs : List.replicate (min m (n - m)) (Value.int .i64 (-1)) = cs at hmin hfit hone hsrc
      generalize hcur : row2 n m = cur at hg hfit hlen
      replace hcs := Aside0.mk hcs
      replace hcur := Aside0.mk hcur
      go_wp2
      go_region_held_law (fun w' => True) (exact trivial)
       ((refine step_copy_splice (by rfl) (.tmp 41) (.tmp 44) 27 27 (by rfl) 3 Try.underlying27 size_int (some ⟨w.heap.size, m, none⟩) (some ⟨w.heap.size, 0, none⟩) (n - m) (n - m) m n (by rfl) (by rfl) w.heap.size m cur 3 hg cs hmin (fun _ => ⟨rfl, ⟨w.heap.size, 0, none⟩, rfl, hsrc⟩) hfit hone w.heap.size w hb (Nat.le_refl _) ?_; intro w2 HG2 hB2; replace HG2 := Aside0.mk HG2.out; replace hB2 := Aside0.mk hB2))
      simp only [List.getElem_toArray, List.getElem_cons_succ, List.getElem_cons_zero, Act.put, List.setIfInBounds_toArray, List.set_cons_succ, List.set_cons_zero, goInt]
      have e9 : IntKind.i64.wrap ((m : Int) + ((Nat.min m (n - m) : Nat) : Int)) = ((m + min m (n - m) : Nat) : Int) := wrap_add m _ (show min m (n - m) ≤ 6 by omega) (by omega)
      have hrow : (splice cur m cs) = row2 n (m + min m (n - m)) := by rw [← hcs.out, ← hcur.out, row2_step n m hlt]
      have hms : n - (intOf (.int .i64 ((m + min m (n - m) : Nat) : Int))).toNat < n - (intOf (.int .i64 (m : Int))).toNat := by
        show n - (m + min m (n - m)) < n - m
        omega
      rw [e9]
      go_wp2
      go_roundw
      case rel => exact ⟨m + min m (n - m), by omega, by omega, rfl, ⟨by rw [← hrow]; exact HG2.out⟩, hB2⟩
      case measure => exact hms
    · obtain rfl : m = n := by omega
      go_wp2
      go_ret
      refine ⟨_, rfl, ?_, Nat.le_refl _, HB.out⟩
      have h := HG.out
      unfold row2 at h
      simpa using h
end Go.Proofs.Ytmcfhmflncghiaa.LinkW
namespace Go.Proofs.Ytmcfhmflncghiaa.LinkW
open Go.RowKit Go.WideMaps Go.Maps Go.Proofs.Ytmcfhmflncghiaa.Q Go.Proofs.Ytmcfhmflncghiaa.Pure Go.Proofs.YtmcfhmflncghiaaW.PrintWords Go.Proofs.YtmcfhmflncghiaaW.PrintLast Go.Proofs.YtmcfhmflncghiaaW.PrintMore
set_option linter.unusedVariables false
set_option linter.unusedSimpArgs false
/-! the closed form -/
def vis (s : Int) : List Int → List Int → List Int → Option (List Int × List Int)
  | [], o, op => some (o, op)
  | x :: xs, o, op => if 0 ≤ x ∧ x < (o.length : Int) then (if rd o x < 0 then (if op.length < 1000 then vis s xs (o.set x.toNat s) (op ++ [x]) else none) else vis s xs o op) else none
def fill (ds : List (Int × Int)) (s : Int) : Nat → List Int → List Int → Option (List Int)
  | 0, _, _ => none
  | k + 1, o, op => match op.getLast? with
    | none => some o
    | some v => if 0 ≤ v ∧ v < (o.length : Int) then (vis s (adjD ds v) o op.dropLast).bind fun p => fill ds s k p.1 p.2 else none
def outer (ds : List (Int × Int)) (n K : Nat) : Nat → Nat → List Int → Option (List Int)
  | 0, _, _ => none
  | k + 1, s, o => if s < n then (if rd o (s : Int) ≥ 0 then outer ds n K k (s + 1) o else (fill ds s K (o.set s (s : Int)) [(s : Int)]).bind fun o' => outer ds n K k (s + 1) o') else some o
/-! the world -/
structure Wd (WN W : World) (g : Nat) (o : List Int) : Prop where
  row : W.heap[g]? = some (.cells (nums .i64 o).toArray 3 (0, 0))
  be : Below WN.heap.size WN W
  le : WN.heap.size ≤ g
theorem Wd.cell {WN W : World} {g : Nat} {o : List Int} (h : Wd WN W g o) (x : Int) (h0 : 0 ≤ x) (h1 : x < (o.length : Int)) : W.cell? ⟨g, x.toNat, none⟩ = some (.int .i64 (rd o x)) := by
  refine (blk_cell h.row x.toNat).trans ?_
  have hl : x.toNat < o.length := by omega
  simp [nums, Go.Proofs.YtmcfhmflncghiaaW.PrintWords.rd, List.getElem?_eq_getElem hl, hl]
theorem Wd.cellN {WN W : World} {g : Nat} {o : List Int} (h : Wd WN W g o) (s : Nat) (h1 : s < o.length) : W.cell? ⟨g, s, none⟩ = some (.int .i64 (Go.Proofs.YtmcfhmflncghiaaW.PrintWords.rd o (s : Int))) := by
  have := h.cell (s : Int) (by omega) (by omega)
  rwa [Int.toNat_natCast] at this
theorem Wd.frozen {WN W : World} {g : Nat} {o : List Int} (h : Wd WN W g o) (i : Nat) : W.frozen? ⟨g, i, none⟩ = false := blk_frozen h.row i
theorem Wd.set {WN W : World} {g : Nat} {o : List Int} (h : Wd WN W g o) (i : Nat) (v : Int) : Wd WN (W.setCell ⟨g, i, none⟩ (.int .i64 v)) g (o.set i v) :=
  ⟨blk_put h.row i _ (by simp [nums, List.map_set]), h.be.setCell (p := ⟨g, i, none⟩) h.le _, h.le⟩
theorem Wd.alloc {WN W : World} {g : Nat} {o : List Int} (h : Wd WN W g o) (ob : Obj) : Wd WN (W.alloc ob) g o :=
  ⟨(heap_alloc_old W ob (blk_lt h.row)).trans h.row, h.be.alloc h.be.size _, h.le⟩
theorem set_grown (W : World) (g i : Nat) (u : Value) : W.grownBy (W.setCell ⟨g, i, none⟩ u) (some g) := ⟨rfl, rfl, rfl, by simp, fun k hk hne => Below.heap_setCell W ⟨g, i, none⟩ u k (fun e => hne (by rw [e]))⟩
theorem Wd.grown {WN W W1 : World} {g : Nat} {o : List Int} {v : Value} {n : Nat} {xs : List Value} (h : Wd WN W g o) (hg : W.grownBy W1 v.ownBlock) (ho : W.ownsRow (g + 1) 3 1 v n xs) : Wd WN W1 g o := by
  have hl := h.le
  exact ⟨(hg.block g (blk_lt h.row) (fun e => by have := (ho.lt g e.symm).1; omega)).trans h.row, h.be.grown hg h.be.size (fun j hj => by have := (ho.lt j hj).1; omega), hl⟩
/-- The last of a row, and the row without it. -/
theorem own_last {W : World} {base : Nat} {v : Value} {op : List Int} {x : Int} (h : W.ownsRow base 3 1 v (op ++ [x]).length (nums .i64 (op ++ [x]))) :
    ∃ b cap, v = .slice (some ⟨b, 0, none⟩) (op.length + 1) cap ∧ W.cell? ⟨b, op.length, none⟩ = some (.int .i64 x) ∧ op.length + 1 ≤ cap ∧ W.ownsRow base 3 1 (.slice (some ⟨b, 0, none⟩) op.length cap) op.length (nums .i64 op) := by
  rcases h.2 with ⟨_, q⟩ | ⟨b, cap, cur, rfl, hb, hg, h1, h2, h3, h4⟩
  · simp at q
  · have hl : (op ++ [x]).length = op.length + 1 := by simp
    rw [hl] at h h1 h4 ⊢
    refine ⟨b, cap, rfl, ?_, h1, ?_, .inr ⟨b, cap, cur, rfl, hb, hg, by omega, h2, h3, ?_⟩⟩
    · rw [h.cellAt op.length (by omega)]
      simp [nums]
    · simp [nums]
    · have e : cur.toList.take (op.length * 1) = (cur.toList.take ((op.length + 1) * 1)).take (op.length * 1) := by rw [List.take_take]; congr 1; omega
      rw [e, h4]
      simp [nums]
theorem new_cell0 (W : World) (v : Value) (t : TypeId) : (W.alloc (.cells #[v] t)).cell? ⟨W.heap.size, 0, none⟩ = some v := by simp
theorem row_own {W : World} {g base m : Nat} {o : List Int} (h : W.heap[g]? = some (.cells (nums .i64 o).toArray 3 (0, 0))) (hl : o.length = m) (hb : base ≤ g) (hm : m ≤ 6) : W.ownsRow base 3 1 (.slice (some ⟨g, 0, none⟩) m m) m (encs (Value.int .i64) o) :=
  ⟨by simp [encs, hl], .inr ⟨g, m, _, rfl, hb, h, Nat.le_refl _, by unfold maxLen; omega, by simp [nums, hl], by simp [nums, encs]; rw [← hl, ← List.map_take, List.take_length]⟩⟩
theorem nil_or_last (op : List Int) : op = [] ∨ ∃ (op' : List Int) (v : Int), op = op' ++ [v] := by
  rcases List.eq_nil_or_concat op with h | ⟨a, b, h⟩
  · exact .inl h
  · exact .inr ⟨a, b, by simpa using h⟩
theorem own_zero {W : World} {base : Nat} {v : Value} {xs : List Value} (h : W.ownsRow base 3 1 v ([] : List Int).length xs) : ∃ A c, v = .slice A 0 c := by
  rcases h.2 with ⟨rfl, _⟩ | ⟨b, cap, cur, rfl, _⟩
  · exact ⟨_, _, rfl⟩
  · exact ⟨_, _, rfl⟩
theorem own_kept {W W1 : World} {g : Nat} {v : Value} {n : Nat} {xs : List Value} (h : W.ownsRow (g + 1) 3 1 v n xs) (hg : W.grownBy W1 (some g)) : W1.ownsRow (g + 1) 3 1 v n xs :=
  h.kept hg (.inr fun e => by have := (h.lt g e).1; omega)
theorem own_app {W : World} {base : Nat} {v : Value} {op : List Int} {x : Int} (h : W.ownsRow base 3 1 v (op.length + 1) (nums .i64 op ++ [.int .i64 x])) : W.ownsRow base 3 1 v (op ++ [x]).length (nums .i64 (op ++ [x])) := by
  simpa [nums_append, nums] using h
/-- A look-up of the neighbours, in any later world. -/
theorem nb_look {H : Type} {WN : World} {B n : Nat} {D : DataW H} {ds : List (Int × Int)} (ho : WN.ownsGroups (H := H) Try.prog 3 (B + 1) 3 .i64 B n D) (hnb : NB D ds) (hn : n < maxLen) (a : Int) (ha : (Lit.int .i64 a).wf = true) :
    ∃ A c, (∀ W, Below WN.heap.size WN W → (Instr.lookup 62 (.map (some B)) (.int .i64 a) false).run Try.prog W = .ok (.slice A (adjD ds a).length c) W) ∧ (adjD ds a).length ≤ n ∧
      ∀ j : Nat, j < (adjD ds a).length → ∃ ad, A = some ad ∧ ∀ W, Below WN.heap.size WN W → W.cell? (ad.add j) = some (.int .i64 ((adjD ds a).getD j 0)) := by
  have hk : keyOf Try.prog 3 (.int .i64 a) = some (.int .i64 a) := keyOf_int_mk Try.underlying3 ha
  obtain ⟨v, zs, hrun, hat, hoi, hzl, _⟩ := ho.at keyI Try.underlying62 (zeroS _) hn hk
  obtain rfl := hnb.read ha hoi hat
  obtain ⟨es, clock, hb, F, _⟩ := ho
  have hB : B < WN.heap.size := (Array.getElem?_eq_some_iff.1 hb).1
  have hall : ∀ W, Below WN.heap.size WN W → (Instr.lookup 62 (.map (some B)) (.int .i64 a) false).run Try.prog W = .ok v W := fun W hW =>
    look_same hb ((hW.block B hB).trans hb) F.keys ha hrun
  have hown := hoi.1
  rcases hoi.1.2 with ⟨rfl, h0⟩ | ⟨g, cap, cur, rfl, _⟩
  · rw [h0]
    exact ⟨none, 0, hall, by omega, fun j hj => by omega⟩
  · refine ⟨some ⟨g, 0, none⟩, cap, hall, hzl, fun j hj => ⟨_, rfl, fun W hW => ?_⟩⟩
    have hc := World.ownsRow.cells hown (g := g) rfl j (.int .i64 ((adjD ds a).getD j 0)) (by simp [List.getElem?_eq_getElem hj, List.getD])
    exact (hW.cell (World.block_lt_of_cell? WN _ hc)).trans hc
set_option maxHeartbeats 8000000 in
set_option maxRecDepth 100000 in
theorem least_calls (m K0 k0 : Nat) (A1 : Option Addr) (c1 : Nat) (l : List Run) (w : World) (hr1 : Kd.C k32 w A1 l.length l) (hc1 : l.length ≤ c1) (hv : nvB (m : Int) l = true) (r : List Int) (h : outer (dirs l) m K0 k0 0 (List.replicate m (-1)) = some r) :
    Calls Try.prog 26 #[.int .i64 m, .slice A1 l.length c1] w fun e w' => ∃ v1_ : Value, e = .returned v1_ ∧ Kd.R (Kd.int .i64) 3 w' w.heap.size (fun _ => True) v1_ r ∧ Below w.heap.size w w' := by
  obtain ⟨i0, hi0, hz0, hz1, hz2⟩ := info_parts info_int
  have hn := nvB_n hv
  have hwf : ∀ r ∈ l, (Lit.int .i64 r.f0).wf = true ∧ (Lit.int .i64 r.f1).wf = true := fun r hr => by
    have := nvB_VL hv r hr
    exact ⟨WalkArith.wf_i64 (by omega), WalkArith.wf_i64 (by omega)⟩
  have HN := Aside0.mk (neigh_calls (H := Unit) A1 c1 l w hr1 hc1 hn.2.2 hwf)
  have HH := Aside0.mk h
  have hm2 : 2 ≤ m ∧ m ≤ 6 := by omega
  clear hr1 hc1 hwf h
  go_enter Try.func26, Try.ntmps26
  go_upto_region 2 with (go_at_call 46; (refine HN.out.mono ?_); rintro e WN ⟨rfl, ⟨⟨D, hNB⟩, hsz⟩, hbN⟩)
  clear HN
  go_upto_region 3 with (go_at_call 47; (refine (repeat_calls m _ hm2 _ (new_cell0 WN _ _)).mono ?_); rintro e WR ⟨g, rfl, hrow, hgl, hbR⟩)
  have hlN := Aside0.mk (show 2 * l.length < maxLen by unfold maxLen; omega)
  have HNB' := Aside0.mk (And.intro hNB hsz)
  have HBN := Aside0.mk hbN
  have hgN : WN.heap.size ≤ g := Nat.le_trans (by simp) hgl
  have HW0 : Wd WN WR g (List.replicate m (-1)) := ⟨by rw [hrow]; simp [nums], ((Below.refl _ _).alloc (Nat.le_refl _) _).trans (hbR.mono (by simp)), hgN⟩
  have HW00 := Aside0.mk HW0
  have HGN := Aside0.mk hgN
  clear hrow hbR HW0 hNB hsz hbN hv hgl hgN
  go_wp2
  go_loopg [18] k0 (fun kq v18 wr => ∃ (s : Nat) (o : List Int), v18 = .int .i64 s ∧ s ≤ m ∧ o.length = m ∧ Aside0 (outer (dirs l) m K0 kq s o = some r) ∧ Aside0 (kq ≤ k0) ∧ Aside0 (Wd WN wr g o))
  case atStart => exact ⟨0, _, rfl, by omega, by simp, HH, ⟨Nat.le_refl _⟩, HW00⟩
  case round =>
    clear HW00 HH
    obtain ⟨s, o, rfl, hs, hol, HA, HK, HW⟩ := hrel
    cases gk with
    | zero => exact absurd HA.out (by simp [outer])
    | succ k1 =>
      have H := HA.out
      clear HA
      rw [outer] at H
      by_cases hsm : s < m
      · rw [if_pos hsm] at H
        have q1 := eq_true (show (s : Int) < (m : Int) by omega)
        have q0 := eq_true (show (0 : Int) ≤ (s : Int) by omega)
        have e9 := Aside0.mk (show wrap64 ((s : Int) + 1) = ((s + 1 : Nat) : Int) by rw [nw64 (by omega) (by omega)]; omega)
        have x0 := HW.out.cellN s (by rw [hol]; exact hsm)
        by_cases c : Go.Proofs.YtmcfhmflncghiaaW.PrintWords.rd o (s : Int) ≥ 0
        · rw [if_pos c] at H
          have c1 : decide (0 ≤ Go.Proofs.YtmcfhmflncghiaaW.PrintWords.rd o (s : Int)) = true := decide_eq_true c
          replace H := Aside0.mk H
          clear c
          go_wp2
          go_roundg k1
          case measure => have := HK.out; omega
          case rel => exact ⟨s + 1, o, by first | rw [e9.out] | rfl, by omega, hol, H, ⟨by have := HK.out; omega⟩, HW⟩
        · rw [if_neg c] at H
          have c1 : decide (0 ≤ Go.Proofs.YtmcfhmflncghiaaW.PrintWords.rd o (s : Int)) = false := decide_eq_false c
          obtain ⟨o1, hf, H⟩ := Option.bind_eq_some_iff.1 H
          replace H := Aside0.mk H
          have HF := Aside0.mk hf
          clear c hf
          have f0 := HW.out.frozen s
          go_upto_region 8 with (fail)
          have hW2 := HW.out.set s (s : Int)
          clear x0 f0 HW c1
          generalize wr.setCell ⟨g, s, none⟩ (.int .i64 (s : Int)) = w2 at hW2 ⊢
          have HW3 := Aside0.mk (hW2.alloc (.cells #[.int .i64 (s : Int)] 3))
          have HO3 := Aside0.mk (World.ownsRow_lit (base := g + 1) (e := 3) (size := 1) w2 #[.int .i64 (s : Int)] 1 (Nat.succ_le_of_lt (blk_lt hW2.row)) (by unfold maxLen; omega) rfl)
          have hol2 : (o.set s (s : Int)).length = m := by rw [List.length_set]; exact hol
          clear hW2 hol
          go_wp2
          go_loopg [8] K0 (fun kq v8 wr2 => ∃ (o2 op : List Int), o2.length = m ∧ op.length ≤ 1000 ∧ Aside0 (fill (dirs l) (s : Int) kq o2 op = some o1) ∧ Aside0 (kq ≤ K0) ∧ Aside0 (Wd WN wr2 g o2) ∧ Aside0 (wr2.ownsRow (g + 1) 3 1 v8 op.length (nums .i64 op)))
          case atStart => exact ⟨_, [(s : Int)], hol2, by simp, HF, ⟨Nat.le_refl _⟩, HW3, HO3⟩
          case round =>
            clear HW3 HO3 HF hol2
            obtain ⟨o2, op, hol, hop, HF, HK2, HW, HO⟩ := hrel
            cases gk with
            | zero => exact absurd HF.out (by simp [fill])
            | succ k2 =>
              have hf := HF.out
              clear HF
              rw [fill] at hf
              rcases nil_or_last op with rfl | ⟨op, v, rfl⟩
              · obtain rfl := Option.some.inj hf
                obtain ⟨A, c, rfl⟩ := own_zero HO.out
                clear hf
                go_wp2
                go_roundg k1
                case measure => have := HK.out; omega
                case rel => exact ⟨s + 1, o2, by first | rw [e9.out] | rfl, by omega, hol, H, ⟨by have := HK.out; omega⟩, HW⟩
              · rw [List.getLast?_append, List.getLast?_singleton, List.dropLast_concat] at hf
                dsimp only [Option.or] at hf
                by_cases hv : 0 ≤ v ∧ v < (o2.length : Int)
                · rw [if_pos hv] at hf
                  obtain ⟨⟨p1, p2⟩, hvis, hf⟩ := Option.bind_eq_some_iff.1 hf
                  have HV := Aside0.mk hvis
                  have HF := Aside0.mk hf
                  obtain ⟨b, cap, rfl, xb, hcap, hO⟩ := own_last HO.out
                  have HO2 := Aside0.mk hO
                  clear HO hvis hf hO
                  have hw64 : (Lit.int .i64 v).wf = true := WalkArith.wf_i64 (by omega)
                  obtain ⟨⟨hNB0, hNB1⟩, hNB2⟩ := HNB'.out
                  obtain ⟨A, c, hlk, hln, hcell⟩ := nb_look hNB0 hNB1 hlN.out v hw64
                  have hrun := hlk wr HW.out.be
                  generalize adjD (dirs l) v = nb at hrun hln hcell HV
                  have HC := Aside0.mk hcell
                  rw [List.length_append, List.length_singleton] at hop
                  clear hNB0 hNB1 hNB2 hlk hcell hw64
                  have e8 : wrap64 (((op.length + 1 : Nat) : Int) - 1) = (op.length : Int) := by rw [nw64 (by omega) (by omega)]; omega
                  go_wp2
                  clear hrun xb e8
                  go_loopw [8, 50] (fun v8 v50 wr => ∃ (j : Nat) (o3 op3 : List Int), v50 = .int .i64 j ∧ j ≤ nb.length ∧ o3.length = m ∧ op3.length ≤ 1000 ∧ Aside0 (vis (s : Int) (nb.drop j) o3 op3 = some (p1, p2)) ∧ Aside0 (Wd WN wr g o3) ∧ Aside0 (wr.ownsRow (g + 1) 3 1 v8 op3.length (nums .i64 op3))) (fun _ v50 _ => nb.length - (intOf v50).toNat)
                  case atStart => exact ⟨0, o2, op, rfl, Nat.zero_le _, hol, by omega, by rw [List.drop_zero]; exact HV, HW, HO2⟩
                  case round =>
                    clear HV HW HO2 hol hop hv
                    obtain ⟨j, o3, op3, rfl, hj, hol, hop, HV, HW, HO⟩ := hrel
                    by_cases hlt : j < nb.length
                    · have hvv := HV.out
                      clear HV
                      rw [List.drop_eq_getElem_cons hlt, vis] at hvv
                      obtain ⟨ad, rfl, hx⟩ := HC.out j hlt
                      have x0 := hx wr HW.out.be
                      rw [show nb.getD j 0 = nb[j] by simp [hlt]] at x0
                      generalize nb[j] = x at hvv x0
                      clear hx
                      have q1 := eq_true (show (j : Int) < (nb.length : Int) by omega)
                      have q0 := eq_true (show (0 : Int) ≤ (j : Int) by omega)
                      have e7 := Aside0.mk (show wrap64 ((j : Int) + 1) = ((j + 1 : Nat) : Int) by rw [nw64 (by omega) (by omega)]; omega)
                      by_cases hxr : 0 ≤ x ∧ x < (o3.length : Int)
                      · rw [if_pos hxr] at hvv
                        have y0 := HW.out.cell x hxr.1 hxr.2
                        have r0 := eq_true hxr.1
                        have r1 := eq_true (show x < (m : Int) by rw [← hol]; exact hxr.2)
                        by_cases c : Go.Proofs.YtmcfhmflncghiaaW.PrintWords.rd o3 x < 0
                        · rw [if_pos c] at hvv
                          have c2 := decide_eq_true c
                          by_cases hop2 : op3.length < 1000
                          · rw [if_pos hop2] at hvv
                            have HV := Aside0.mk hvv
                            have f0 := HW.out.frozen x.toNat
                            clear hvv c
                            go_upto_region 17 with (fail)
                            have hW5 := HW.out.set x.toNat (s : Int)
                            have hO5 := own_kept HO.out (set_grown wr g x.toNat (.int .i64 (s : Int)))
                            have hol5 : (o3.set x.toNat (s : Int)).length = m := by rw [List.length_set]; exact hol
                            clear x0 y0 f0 HW HO hol r0 r1 c2
                            generalize wr.setCell ⟨g, x.toNat, none⟩ (.int .i64 (s : Int)) = w5 at hW5 hO5 ⊢
                            have HW5 := Aside0.mk hW5
                            have HO5 := Aside0.mk hO5
                            clear hW5 hO5
                            go_wp2_with (first | (at_builtin; refine wpList_append_own_at _ (by rfl) _ _ 27 (by rfl) (g + 1) 3 i0 (.int .i64 0) 1 8 Try.underlying27 hi0 hz0 hz1 hz2 rfl (by decide) u8 op3.length (nums .i64 op3) (by rfl) (HO5.out.alloc _) ⟨w5.heap.size, 0, none⟩ 1 1 [.int .i64 x] (by rfl) rfl (cell_one_new _ _ _) (by simp [Value.oneCell']) (by unfold maxLen; omega) (by omega) (Nat.le_trans (Nat.succ_le_of_lt (blk_lt HW5.out.row)) (by simp)) ?_; intro v' w1 hown' hgrow hnil hloc; have HWn := Aside0.mk ((HW5.out.alloc _).grown hgrow (HO5.out.alloc _)); have HOn := Aside0.mk (own_app hown'); clear hown' hgrow hnil hloc))
                            go_roundw
                            case rel => exact ⟨j + 1, _, _, qq70, by omega, hol5, qq69, HV, HWn, HOn⟩
                            case measure => first | exact meas_up2 hlt | exact meas_up hlt e7.out
                          · rw [if_neg hop2] at hvv
                            exact absurd hvv (by simp)
                        · rw [if_neg c] at hvv
                          have c2 := decide_eq_false c
                          have HV := Aside0.mk hvv
                          clear hvv c
                          go_wp2
                          go_roundw
                          case rel => exact ⟨j + 1, o3, op3, qq70, by omega, hol, hop, HV, HW, HO⟩
                          case measure => first | exact meas_up2 hlt | exact meas_up hlt e7.out
                      · rw [if_neg hxr] at hvv
                        exact absurd hvv (by simp)
                    · obtain rfl : j = nb.length := by omega
                      have hvv := HV.out
                      rw [List.drop_length, vis] at hvv
                      obtain ⟨rfl, rfl⟩ : o3 = p1 ∧ op3 = p2 := by simpa using hvv
                      clear hvv HV
                      have q1 := eq_false (show ¬ (nb.length : Int) < (nb.length : Int) by omega)
                      go_wp2
                      go_roundg k2
                      case measure => have := HK2.out; omega
                      case rel => exact ⟨o3, op3, hol, hop, HF, ⟨by have := HK2.out; omega⟩, HW, HO⟩
                · rw [if_neg hv] at hf
                  exact absurd hf (by simp)
      · rw [if_neg hsm] at H
        obtain rfl := Option.some.inj H
        have q1 := eq_false (show ¬ (s : Int) < (m : Int) by omega)
        go_wp2
        go_ret
        refine ⟨_, rfl, Kd.R_of_own (α := Int) (by rw [hol]; exact row_own HW.out.row hol (by have := HBN.out.size; have := HW.out.le; omega) (by omega)) (fun _ _ => trivial), HBN.out.trans (HW.out.be.mono HBN.out.size)⟩
end Go.Proofs.Ytmcfhmflncghiaa.LinkW
namespace Go.Proofs.Ytmcfhmflncghiaa.Pure
open Go.RowKit Go.Proofs.Ytmcfhmflncghiaa.Q Go.Proofs.Ytmcfhmflncghiaa.LinkW Go.Proofs.YtmcfhmflncghiaaW.PrintWords Go.Proofs.YtmcfhmflncghiaaW.PrintLast Go.Proofs.YtmcfhmflncghiaaW.PrintMore

theorem mem_adj {l : List Run} {v x : Int} : x ∈ adjD (dirs l) v ↔ ∃ r ∈ l, (r.f0 = v ∧ r.f1 = x) ∨ (r.f1 = v ∧ r.f0 = x) := by
  unfold adjD dirs
  simp only [List.mem_map, List.mem_filter, List.mem_flatMap, List.mem_cons, List.not_mem_nil, or_false, decide_eq_true_eq]
  constructor
  · rintro ⟨p, ⟨⟨r, hr, h⟩, h1⟩, h2⟩
    refine ⟨r, hr, ?_⟩
    rcases h with rfl | rfl
    · exact .inl ⟨h1, h2⟩
    · exact .inr ⟨h1, h2⟩
  · rintro ⟨r, hr, h | h⟩
    · exact ⟨(r.f0, r.f1), ⟨⟨r, hr, .inl rfl⟩, h.1⟩, h.2⟩
    · exact ⟨(r.f1, r.f0), ⟨⟨r, hr, .inr rfl⟩, h.1⟩, h.2⟩
theorem count_set_neg (s : Int) (hs : 0 ≤ s) : ∀ (o : List Int) (i : Nat), (h : i < o.length) → o[i] = -1 → (o.set i s).count (-1) + 1 = o.count (-1)
  | [], i, h, _ => by simp at h
  | x :: o, 0, _, e => by
    simp only [List.getElem_cons_zero] at e
    have : s ≠ -1 := by omega
    simp [List.set_cons_zero, e, this]
  | x :: o, i + 1, h, e => by
    have ih := count_set_neg s hs o i (by simpa using h) (by simpa using e)
    simp only [List.set_cons_succ, List.count_cons]
    omega
theorem count_set_rd (s : Int) (hs : 0 ≤ s) (o : List Int) (x : Int) (h0 : 0 ≤ x) (h1 : x < o.length) (e : rd o x = -1) : (o.set x.toNat s).count (-1) + 1 = o.count (-1) := by
  obtain ⟨i, rfl⟩ : ∃ i : Nat, x = i := ⟨x.toNat, by omega⟩
  rw [rd_eq o i (by omega)] at e
  exact count_set_neg s hs o i (by omega) e
/-- What is known while the start s is spread: L is the answer. -/
structure Mid (n : Int) (L o : List Int) (s : Int) : Prop where
  len : (o.length : Int) = n
  lo : ∀ v, 0 ≤ v → v < n → rd L v < s → rd o v = rd L v
  hi : ∀ v, 0 ≤ v → v < n → s < rd L v → rd o v = -1
  mi : ∀ v, 0 ≤ v → v < n → rd L v = s → rd o v = -1 ∨ rd o v = s
theorem Mid.neg {n : Int} {L o : List Int} {s : Int} (h : Mid n L o s) (hs : 0 ≤ s) {v : Int} (h0 : 0 ≤ v) (h1 : v < n) (hL : rd L v = s) : rd o v < 0 ↔ rd o v ≠ s := by
  rcases h.mi v h0 h1 hL with e | e <;> rw [e] <;> omega
theorem Mid.set {n : Int} {L o : List Int} {s : Int} (h : Mid n L o s) {x : Int} (h0 : 0 ≤ x) (h1 : x < n) (hL : rd L x = s) : Mid n L (o.set x.toNat s) s := by
  have hl := h.len
  refine ⟨by rw [List.length_set]; exact hl, fun v v0 v1 e => ?_, fun v v0 v1 e => ?_, fun v v0 v1 e => ?_⟩ <;> rw [rd_set o x v s h0 v0 (by omega)] <;> split
  · next q => subst q; omega
  · exact h.lo v v0 v1 e
  · next q => subst q; omega
  · exact h.hi v v0 v1 e
  · exact .inr rfl
  · exact h.mi v v0 v1 e
structure VisOut (n : Int) (L : List Int) (s : Int) (xs o op o' op' : List Int) : Prop where
  mid : Mid n L o' s
  grow : ∀ v, 0 ≤ v → v < n → rd o v = s → rd o' v = s
  done : ∀ x ∈ xs, rd o' x = s
  new : ∀ v, 0 ≤ v → v < n → rd o' v = s → rd o v = s ∨ v ∈ op'
  keep : ∀ x ∈ op, x ∈ op'
  ops : (∀ x ∈ op, 0 ≤ x ∧ x < n ∧ rd L x = s) → ∀ x ∈ op', 0 ≤ x ∧ x < n ∧ rd L x = s
  cnt : op'.length + o'.count (-1) = op.length + o.count (-1)
theorem vis_ok {n : Int} {L : List Int} {s : Int} (hs : 0 ≤ s) : ∀ (xs o op : List Int), (∀ x ∈ xs, 0 ≤ x ∧ x < n ∧ rd L x = s) → Mid n L o s → op.length + o.count (-1) ≤ 900 → ∃ o' op', vis s xs o op = some (o', op') ∧ VisOut n L s xs o op o' op'
  | [], o, op, _, hM, _ => ⟨o, op, rfl, hM, fun _ _ _ e => e, by simp, fun _ _ _ e => .inl e, fun _ h => h, fun h => h, rfl⟩
  | x :: xs, o, op, hx, hM, hc => by
    obtain ⟨x0, x1, xL⟩ := hx x (by simp)
    have hl := hM.len
    have hx' : ∀ y ∈ xs, 0 ≤ y ∧ y < n ∧ rd L y = s := fun y hy => hx y (by simp [hy])
    rw [vis, if_pos ⟨x0, by omega⟩]
    by_cases c : rd o x < 0
    · have hne := (hM.neg hs x0 x1 xL).1 c
      have e1 : rd o x = -1 := by rcases hM.mi x x0 x1 xL with e | e; exact e; exact absurd e hne
      have hcnt := count_set_rd s hs o x x0 (by omega) e1
      rw [if_pos c, if_pos (by omega)]
      obtain ⟨o', op', h1, h2⟩ := vis_ok hs xs (o.set x.toNat s) (op ++ [x]) hx' (hM.set x0 x1 xL) qq69
      have hset : ∀ v, 0 ≤ v → v < n → rd (o.set x.toNat s) v = if v = x then s else rd o v := fun v v0 v1 => rd_set o x v s x0 v0 (by omega)
      refine ⟨o', op', h1, h2.mid, fun v v0 v1 e => h2.grow v v0 v1 (by rw [hset v v0 v1]; split <;> simp [e]), fun y hy => ?_, fun v v0 v1 e => ?_, fun y hy => h2.keep y (by simp [hy]), fun hop => h2.ops fun y hy => ?_, ?_⟩
      · rcases List.mem_cons.1 hy with rfl | hy
        · exact h2.grow y x0 x1 (by rw [hset y x0 x1, if_pos rfl])
        · exact h2.done y hy
      · rcases h2.new v v0 v1 e with q | q
        · rw [hset v v0 v1] at q
          split at q
          · next z => exact .inr (h2.keep v (by simp [z]))
          · exact .inl q
        · exact .inr q
      · rcases List.mem_append.1 hy with q | q
        · exact hop y q
        · rw [List.mem_singleton.1 q]; exact ⟨x0, x1, xL⟩
      · have := h2.cnt
        rw [List.length_append, List.length_singleton] at this
        omega
    · rw [if_neg c]
      have e1 : rd o x = s := Classical.byContradiction fun q => c ((hM.neg hs x0 x1 xL).2 q)
      obtain ⟨o', op', h1, h2⟩ := vis_ok hs xs o op hx' hM hc
      refine ⟨o', op', h1, h2.mid, h2.grow, fun y hy => ?_, h2.new, h2.keep, h2.ops, h2.cnt⟩
      rcases List.mem_cons.1 hy with rfl | hy
      · exact h2.grow y x0 x1 e1
      · exact h2.done y hy
theorem fill_ok {n : Int} {l : List Run} {L : List Int} (hv : VL n l) (hL : Lst n l L) {s : Int} (hs : 0 ≤ s ∧ s < n) : ∀ (k : Nat) (o op : List Int), op.length + o.count (-1) < k → op.length + o.count (-1) ≤ 900 → Mid n L o s → rd o s = s →
    (∀ x ∈ op, 0 ≤ x ∧ x < n ∧ rd L x = s) → (∀ u, 0 ≤ u → u < n → rd o u = s → u ∉ op → ∀ x ∈ adjD (dirs l) u, rd o x = s) →
    ∃ o', fill (dirs l) s k o op = some o' ∧ Mid n L o' s ∧ ∀ v, 0 ≤ v → v < n → rd L v = s → rd o' v = s
  | 0, _, _, h, _, _, _, _, _ => by omega
  | k + 1, o, op, hk, hc, hM, hos, hop, hd => by
    rw [fill]
    rcases List.eq_nil_or_concat op with rfl | ⟨op, v, e⟩
    · refine ⟨o, rfl, hM, fun v v0 v1 e => ?_⟩
      have hcl : ∀ r ∈ l, (rd o r.f0 = s) = (rd o r.f1 = s) := fun r hr => by
        have hb := hv r hr
        refine propext ⟨fun q => hd r.f0 hb.1 hb.2.1 q (by simp) r.f1 (mem_adj.2 ⟨r, hr, .inl ⟨rfl, rfl⟩⟩), fun q => hd r.f1 hb.2.2.1 hb.2.2.2 q (by simp) r.f0 (mem_adj.2 ⟨r, hr, .inr ⟨rfl, rfl⟩⟩)⟩
      have := hL.lk v v0 v1
      rw [e] at this
      exact (this.const (fun x => rd o x = s) hcl).mp hos
    · have e2 : op ++ [v] = op.concat v := by simp
      rw [e, ← e2] at hk hc hop hd ⊢
      rw [List.getLast?_append, List.getLast?_singleton, List.dropLast_concat]
      dsimp only [Option.or]
      obtain ⟨v0, v1, vL⟩ := hop v (by simp)
      have hl := hM.len
      rw [List.length_append, List.length_singleton] at hk hc
      rw [if_pos ⟨v0, by omega⟩]
      have hadj : ∀ u, 0 ≤ u → u < n → rd L u = s → ∀ x ∈ adjD (dirs l) u, 0 ≤ x ∧ x < n ∧ rd L x = s := fun u u0 u1 uL x hx => by
        obtain ⟨r, hr, h | h⟩ := mem_adj.1 hx
        · have hb := hv r hr
          have := hL.cl r hr
          rw [h.1, h.2] at this
          rw [h.2] at hb
          exact ⟨hb.2.2.1, hb.2.2.2, by omega⟩
        · have hb := hv r hr
          have := hL.cl r hr
          rw [h.1, h.2] at this
          rw [h.2] at hb
          exact ⟨hb.1, hb.2.1, by omega⟩
      obtain ⟨o', op', h1, h2⟩ := vis_ok hs.1 (adjD (dirs l) v) o op (hadj v v0 v1 vL) hM (by omega)
      rw [h1]
      simp only [Option.bind_some]
      have hc2 := h2.cnt
      refine fill_ok hv hL hs k o' op' (by omega) (by omega) h2.mid (h2.grow s hs.1 hs.2 hos) (h2.ops fun x hx => hop x (by simp [hx])) (fun u u0 u1 uo hu x hx => ?_)
      by_cases q : u = v
      · subst q; exact h2.done x hx
      · rcases h2.new u u0 u1 uo with z | z
        · have hx1 := hd u u0 u1 z (by
            intro hm
            rcases List.mem_append.1 hm with y | y
            · exact hu (h2.keep u y)
            · exact q (List.mem_singleton.1 y)) x hx
          obtain ⟨r, hr, h | h⟩ := mem_adj.1 hx
          · have hb := hv r hr
            rw [h.2] at hb
            exact h2.grow x hb.2.2.1 hb.2.2.2 hx1
          · have hb := hv r hr
            rw [h.2] at hb
            exact h2.grow x hb.1 hb.2.1 hx1
        · exact absurd z hu
theorem outer_ok {m : Nat} {l : List Run} {L : List Int} (hv : VL m l) (hL : Lst m l L) (hm : m ≤ 800) (K : Nat) (hK : m + 2 < K) : ∀ (k s : Nat) (o : List Int), m - s < k → s ≤ m → o.length = m →
    (∀ v : Int, 0 ≤ v → v < m → rd L v < s → rd o v = rd L v) → (∀ v : Int, 0 ≤ v → v < m → (s : Int) ≤ rd L v → rd o v = -1) → outer (dirs l) m K k s o = some L
  | 0, _, _, h, _, _, _, _ => by omega
  | k + 1, s, o, hk, hsm, hol, h1, h2 => by
    rw [outer]
    have hLl := hL.len
    have hrep : ∀ v : Int, 0 ≤ v → v < m → rd L (rd L v) = rd L v := fun v v0 v1 => (hL.lk v v0 v1).const (rd L) hL.cl
    by_cases c : s < m
    · rw [if_pos c]
      have s0 : (0 : Int) ≤ (s : Int) := by omega
      have s1 : (s : Int) < (m : Int) := by omega
      have hle := hL.le s s0 s1
      have hnn := hL.nn s s0 s1
      by_cases q : rd L (s : Int) < s
      · have e := h1 s s0 s1 q
        rw [if_pos (by rw [e]; exact hnn)]
        refine outer_ok hv hL hm K hK k (s + 1) o (by omega) (by omega) hol (fun v v0 v1 e2 => ?_) (fun v v0 v1 e2 => h2 v v0 v1 (by omega))
        by_cases z : rd L v = s
        · have := hrep v v0 v1
          rw [z] at this
          omega
        · exact h1 v v0 v1 (by omega)
      · have eL : rd L (s : Int) = s := by omega
        have e := h2 s s0 s1 (by omega)
        rw [if_neg (by rw [e]; decide)]
        have hset : ∀ v : Int, 0 ≤ v → v < m → rd (o.set s (s : Int)) v = if v = s then (s : Int) else rd o v := fun v v0 v1 => by
          have := rd_set o (s : Int) v s s0 v0 (by omega)
          rwa [Int.toNat_natCast] at this
        have hM : Mid m L (o.set s (s : Int)) s := by
          refine ⟨by rw [List.length_set]; omega, fun v v0 v1 e2 => ?_, fun v v0 v1 e2 => ?_, fun v v0 v1 e2 => ?_⟩ <;> rw [hset v v0 v1] <;> split
          · next z => subst z; omega
          · exact h1 v v0 v1 e2
          · next z => subst z; omega
          · exact h2 v v0 v1 (by omega)
          · exact .inr rfl
          · exact .inl (h2 v v0 v1 (by omega))
        have hcl := List.count_le_length (a := (-1 : Int)) (l := o.set s (s : Int))
        rw [List.length_set] at hcl
        obtain ⟨o', f1, f2, f3⟩ := fill_ok hv hL ⟨s0, s1⟩ K (o.set s (s : Int)) [(s : Int)] (by rw [List.length_singleton]; omega) (by rw [List.length_singleton]; omega) hM (by rw [hset s s0 s1, if_pos rfl]) (by
          intro x hx
          rw [List.mem_singleton.1 hx]
          exact ⟨s0, s1, eL⟩) (fun u u0 u1 uo hu => by
            rw [hset u u0 u1, if_neg (by simpa using hu)] at uo
            exfalso
            by_cases z : rd L u < s
            · have := h1 u u0 u1 z; omega
            · have := h2 u u0 u1 (by omega); omega)
        rw [f1]
        simp only [Option.bind_some]
        have f4 := f2.len
        refine outer_ok hv hL hm K hK k (s + 1) o' (by omega) (by omega) (by omega) (fun v v0 v1 e2 => ?_) (fun v v0 v1 e2 => f2.hi v v0 v1 (by omega))
        by_cases z : rd L v = s
        · rw [f3 v v0 v1 z, z]
        · exact f2.lo v v0 v1 (by omega)
    · rw [if_neg c]
      congr 1
      refine ext_rd (by omega) fun v v0 v1 => h1 v v0 (by omega) ?_
      have := hL.le v v0 (by omega)
      omega
theorem outer_least {m : Nat} {l : List Run} (hv : VL m l) (hm : m ≤ 6) : outer (dirs l) m 100 20 0 (List.replicate m (-1)) = some (leastR m l) := by
  refine outer_ok hv (leastR_lst (by omega) l hv) (by omega) 100 (by omega) 20 0 _ (by omega) (by omega) (by simp) (fun v v0 v1 e => ?_) (fun v v0 v1 e => ?_)
  · have := (leastR_lst (n := m) (by omega) l hv).nn v v0 v1
    simp at e; omega
  · obtain ⟨i, rfl⟩ : ∃ i : Nat, v = i := ⟨v.toNat, by omega⟩
    rw [rd_eq _ i (by simp; omega)]
    simp
/-- The program's answer, at a valid net. -/
theorem leastLinked_all (n : Int) (A1 : Option Addr) (c1 : Nat) (l : List Run) (w : World) (hr1 : Kd.C k32 w A1 l.length l) (hc1 : l.length ≤ c1) (hv : nvB n l = true) :
    Calls Try.prog 26 #[.int .i64 n, .slice A1 l.length c1] w fun e w' => ∃ v1_ : Value, e = .returned v1_ ∧ Kd.R (Kd.int .i64) 3 w' w.heap.size (fun _ => True) v1_ (leastR n l) ∧ Below w.heap.size w w' := by
  have hn := nvB_n hv
  obtain ⟨m, rfl⟩ : ∃ m : Nat, n = m := ⟨n.toNat, by omega⟩
  exact least_calls m 100 20 A1 c1 l w hr1 hc1 hv _ (outer_least (nvB_VL hv) (by omega))
end Go.Proofs.Ytmcfhmflncghiaa.Pure
namespace Go.Proofs.Ytmcfhmflncghiaa.Q
open Go.RowKit Go.Proofs.YtmcfhmflncghiaaW.PrintWords Go.Proofs.YtmcfhmflncghiaaW.PrintLast Go.Proofs.YtmcfhmflncghiaaW.PrintMore
attribute [local go_sem] max2_int min2_int max_two min_two max_three min_three max_four min_four
set_option linter.unusedVariables false
set_option linter.unusedSimpArgs false

/-! ### impl_leastLinked: function 26 -/
def impl_leastLinked.f (a0 : Int) (l1 : List (S32)) : Option (List Int) := if Go.Proofs.Ytmcfhmflncghiaa.Pure.nvB a0 l1 = true then some (Go.Proofs.Ytmcfhmflncghiaa.Pure.leastR a0 l1) else none
theorem impl_leastLinked.calls (a0 : Int) (A1 : Option Addr) (c1 : Nat) (l1 : List (S32)) (r : List Int) (w : World) (hr1 : Kd.C k32 w A1 l1.length l1) (hc1 : l1.length ≤ c1) (h : impl_leastLinked.f a0 l1 = some r) :
    Calls Try.prog 26 #[.int .i64 a0, .slice A1 l1.length c1] w fun e w' => ∃ v0_ : Value, e = .returned (v0_) ∧ Kd.R (Kd.int .i64) 3 w' w.heap.size (fun _ => True) v0_ r ∧ Below w.heap.size w w' := by
  unfold impl_leastLinked.f at h
  by_cases c : Go.Proofs.Ytmcfhmflncghiaa.Pure.nvB a0 l1 = true
  · rw [if_pos c] at h
    obtain rfl := Option.some.inj h
    exact Go.Proofs.Ytmcfhmflncghiaa.Pure.leastLinked_all a0 A1 c1 l1 w hr1 hc1 c
  · rw [if_neg c] at h
    exact absurd h (by simp)

end Go.Proofs.Ytmcfhmflncghiaa.Q
namespace Go.Proofs.Ytmcfhmflncghiaa.Q
open Go.RowKit Go.Proofs.YtmcfhmflncghiaaW.PrintWords Go.Proofs.YtmcfhmflncghiaaW.PrintLast Go.Proofs.YtmcfhmflncghiaaW.PrintMore
attribute [local go_sem] max2_int min2_int max_two min_two max_three min_three max_four min_four
set_option linter.unusedVariables false
set_option linter.unusedSimpArgs false

/-! ### impl_NetWhole: function 13 -/
def impl_NetWhole.l0 : Nat → List Int → Int → Int → Option (Bool)
  | 0, _, _, _ => none
  | k + 1, x13, x14, x15 => if x15 < x14 then (if 0 ≤ x15 then (if x15 < (x13.length : Int) then (if (rd x13 x15) = 0 then (impl_NetWhole.l0 k x13 x14 (wrap64 (x15 + 1))) else (some false)) else (none)) else (none)) else (some true)
def impl_NetWhole.f (k : Nat) (a0 : Int) (l1 : List (S32)) : Option (Bool) := (impl_NetValid.f k a0 l1).bind fun t210 => (if t210 = true then ((impl_leastLinked.f a0 l1).bind fun t211 => (impl_NetWhole.l0 k t211 (t211.length : Int) 0)) else (some false))
set_option maxHeartbeats 8000000 in
set_option maxRecDepth 100000 in
theorem impl_NetWhole.calls (k : Nat) (a0 : Int) (A1 : Option Addr) (c1 : Nat) (l1 : List (S32)) (r : Bool) (w : World) (hr1 : Kd.C k32 w A1 l1.length l1) (hc1 : l1.length ≤ c1) (h : impl_NetWhole.f k a0 l1 = some r) :
    Calls Try.prog 13 #[.int .i64 a0, .slice A1 l1.length c1] w fun e w' => e = .returned (.bool r) ∧ Below w.heap.size w w' := by
  have HR1 := Aside0.mk hr1
  have HC1 := Aside0.mk hc1
  clear hr1 hc1
  have HB := Aside0.mk (Below.refl w.heap.size w)
  have H : ((impl_NetValid.f k a0 l1).bind fun t210 => (if t210 = true then ((impl_leastLinked.f a0 l1).bind fun t211 => (impl_NetWhole.l0 k t211 (t211.length : Int) 0)) else (some false))) = some r := h
  clear h
  replace H := Option.bind_eq_some_iff.mp H
  obtain ⟨t210, A30, H⟩ := H
  replace H : (if t210 = true then ((impl_leastLinked.f a0 l1).bind fun t211 => (impl_NetWhole.l0 k t211 (t211.length : Int) 0)) else (some false)) = some r := H
  have A3 := Aside0.mk A30
  clear A30
  by_cases c4 : t210 = true
  · subst c4
    have H1 : ((impl_leastLinked.f a0 l1).bind fun t211 => (impl_NetWhole.l0 k t211 (t211.length : Int) 0)) = some r := by rw [if_pos rfl] at H; exact H
    clear H
    have H := H1
    clear H1
    replace H := Option.bind_eq_some_iff.mp H
    obtain ⟨t211, A50, H⟩ := H
    replace H : (impl_NetWhole.l0 k t211 (t211.length : Int) 0) = some r := H
    have A5 := Aside0.mk A50
    clear A50
    have H' := Aside0.mk H
    clear H
    go_enter Try.func13, Try.ntmps13
    go_wp2_with (first | ((with_reducible refine gate_callee (f := 23) rfl ?_); refine goesL_ (some 9) rfl rfl Try.func23 (by kernel_rfl) rfl #[.int .i64 a0, .slice A1 l1.length c1] rfl qq5 ?_; (with_reducible refine (impl_NetValid.calls k a0 _ _ l1 true _ ?side1 ?side2 A3.out).mono ?_); (case side1 => exact qq15 HR1.out); (case side2 => exact HC1.out); rintro e w6 ⟨rfl, hb⟩; refine ⟨_, rfl, ?_⟩; have n0_ := Aside0.mk (below_step qq1 hb); clear HB; have HB := n0_; clear n0_; (try clear hb); (try clear hb2); (try clear hk); (try clear hi)) | ((with_reducible refine gate_callee (f := 26) rfl ?_); refine goesL_ (some 13) rfl rfl Try.func26 (by kernel_rfl) rfl #[.int .i64 a0, .slice A1 l1.length c1] rfl qq5 ?_; (with_reducible refine (impl_leastLinked.calls a0 _ _ l1 t211 _ ?side1 ?side2 A5.out).mono ?_); (case side1 => exact qq37); (case side2 => exact HC1.out); rintro e w7 ⟨v212, rfl, ho0, hb⟩; refine ⟨_, rfl, ?_⟩; have n0_ := Aside0.mk (Kd.R_lower ho0 (below_size qq1)); have n1_ := Aside0.mk (below_step qq1 hb); clear HB; have HO213 := n0_; have HB := n1_; clear n0_ n1_; (try clear hb); (try clear hb2); (try clear hk); (try clear hi); (try clear ho0); obtain ⟨Ao8, co8, eo8⟩ := Kd.R_slice HO213.out; subst eo8))
    go_loopg [15] k (fun kq v15 w' => ∃ (x15_1 : Int), v15 = .int .i64 x15_1 ∧ Aside0 (impl_NetWhole.l0 kq t211 (t211.length : Int) x15_1 = some r) ∧ Aside0 (kq ≤ k) ∧ Aside0 (Kd.R (Kd.int .i64) 3 w' w.heap.size (fun _ => True) (.slice Ao8 t211.length co8) t211) ∧ Aside0 (Below w.heap.size w w'))
    case atStart => exact ⟨(0), qq14, H', ⟨Nat.le_refl _⟩, ⟨qq2 HO213.out⟩, ⟨qq1⟩⟩
    case round =>
      clear H'
      try clear c1
      try clear c2
      try clear p2
      try clear c4
      obtain ⟨x15_1, rfl, HA, HK1, HO_13, HB⟩ := hrel
      cases gk with
      | zero => exact absurd HA.out (by simp [impl_NetWhole.l0])
      | succ k1 =>
        have H := HA.out
        clear HA
        simp only [impl_NetWhole.l0] at H
        by_cases c9 : x15_1 < (t211.length : Int)
        · rw [if_pos c9] at H
          have c9b0 : decide (x15_1 < (t211.length : Int)) = true := decide_eq_true c9
          clear c9
          by_cases c10 : 0 ≤ x15_1
          · rw [if_pos c10] at H
            have c10b0 : decide (0 ≤ x15_1) = true := decide_eq_true c10
            clear c10
            by_cases c11 : x15_1 < (t211.length : Int)
            · rw [if_pos c11] at H
              have c11b0 : decide (x15_1 < (t211.length : Int)) = true := decide_eq_true c11
              clear c11
              by_cases c12 : (rd t211 x15_1) = 0
              · rw [if_pos c12] at H
                have c12b0 : ((rd t211 x15_1) == 0) = true := beq_iff_eq.mpr c12
                have c12b1 : ((rd t211 x15_1) != 0) = false := bne_eq_false_iff_eq.mpr c12
                clear c12
                have H' := Aside0.mk H
                clear H
                have p214 : 0 ≤ (x15_1 : Int) := of_decide_eq_true qq3
                have q214 : x15_1 < (t211.length : Int) := of_decide_eq_true qq3
                obtain ⟨ad214, e214, hx214_0⟩ := Kd.at_int (Kd.R_reads' HO_13.out).2.2 x15_1 p214 q214
                cases e214
                replace p214 := eq_true p214
                replace q214 := eq_true q214
                go_wp2
                go_roundg k1
                case measure => have := HK1.out; omega
                case rel => exact ⟨(wrap64 (x15_1 + 1)), qq14, H', ⟨by have := HK1.out; omega⟩, ⟨qq2 HO_13.out⟩, ⟨qq1⟩⟩
              · rw [if_neg c12] at H
                have c12b0 : ((rd t211 x15_1) == 0) = false := beq_eq_false_iff_ne.mpr c12
                have c12b1 : ((rd t211 x15_1) != 0) = true := bne_iff_ne.mpr c12
                obtain rfl := Option.some.inj H
                have p214 : 0 ≤ (x15_1 : Int) := of_decide_eq_true qq3
                have q214 : x15_1 < (t211.length : Int) := of_decide_eq_true qq3
                obtain ⟨ad214, e214, hx214_0⟩ := Kd.at_int (Kd.R_reads' HO_13.out).2.2 x15_1 p214 q214
                cases e214
                replace p214 := eq_true p214
                replace q214 := eq_true q214
                go_wp2
                go_ret
                exact ⟨qq11, qq1⟩
            · rw [if_neg c11] at H
              exact absurd H (by simp)
          · rw [if_neg c10] at H
            exact absurd H (by simp)
        · rw [if_neg c9] at H
          have c9b0 : decide (x15_1 < (t211.length : Int)) = false := decide_eq_false c9
          clear c9
          obtain rfl := Option.some.inj H
          go_wp2
          go_ret
          exact ⟨qq11, qq1⟩
  · replace c4 := Bool.eq_false_iff.mpr c4
    subst c4
    have H1 : (some false) = some r := by rw [if_neg (show ¬ (false = true) by decide)] at H; exact H
    clear H
    have H := H1
    clear H1
    obtain rfl := Option.some.inj H
    go_enter Try.func13, Try.ntmps13
    go_wp2_with (first | ((with_reducible refine gate_callee (f := 23) rfl ?_); refine goesL_ (some 9) rfl rfl Try.func23 (by kernel_rfl) rfl #[.int .i64 a0, .slice A1 l1.length c1] rfl qq5 ?_; (with_reducible refine (impl_NetValid.calls k a0 _ _ l1 false _ ?side1 ?side2 A3.out).mono ?_); (case side1 => exact qq15 HR1.out); (case side2 => exact HC1.out); rintro e w13 ⟨rfl, hb⟩; refine ⟨_, rfl, ?_⟩; have n0_ := Aside0.mk (below_step qq1 hb); clear HB; have HB := n0_; clear n0_; (try clear hb); (try clear hb2); (try clear hk); (try clear hi)))
    go_ret
    exact ⟨qq11, qq1⟩

end Go.Proofs.Ytmcfhmflncghiaa.Q
namespace Go.Proofs.Ytmcfhmflncghiaa.Q
open Go.RowKit Go.Proofs.YtmcfhmflncghiaaW.PrintWords Go.Proofs.YtmcfhmflncghiaaW.PrintLast Go.Proofs.YtmcfhmflncghiaaW.PrintMore
attribute [local go_sem] max2_int min2_int max_two min_two max_three min_three max_four min_four
set_option linter.unusedVariables false
set_option linter.unusedSimpArgs false

/-! ### impl_TreeFirst: function 10 -/
def impl_TreeFirst.l0 : Nat → Int → List (S32) → List Int → List (S32) → Int → Int → Option (List Int × Bool)
  | 0, _, _, _, _, _, _ => none
  | k + 1, x0, x1, x6, x16, x17, x18 => if x18 < x17 then (if 0 ≤ x18 then (if x18 < (x16.length : Int) then ((impl_pick.f k x1 x6).bind fun t232 => ((impl_leastLinked.f x0 t232).bind fun t235 => (if 0 ≤ ((rd_T32 x16 x18).f0) then (if ((rd_T32 x16 x18).f0) < (t235.length : Int) then (if 0 ≤ ((rd_T32 x16 x18).f1) then (if ((rd_T32 x16 x18).f1) < (t235.length : Int) then (if (rd t235 ((rd_T32 x16 x18).f0)) = (rd t235 ((rd_T32 x16 x18).f1)) then (impl_TreeFirst.l0 k x0 x1 x6 x16 x17 (wrap64 (x18 + 1))) else (if x6.length < 17592186044416 then (impl_TreeFirst.l0 k x0 x1 (x6 ++ [x18]) x16 x17 (wrap64 (x18 + 1))) else (none))) else (none)) else (none)) else (none)) else (none)))) else (none)) else (none)) else (some (x6, true))
def impl_TreeFirst.f (k : Nat) (a0 : Int) (l1 : List (S32)) : Option (List Int × Bool) := (impl_NetWhole.f k a0 l1).bind fun t223 => (if t223 = true then (impl_TreeFirst.l0 k a0 l1 (([] : List Int)) l1 (l1.length : Int) 0) else (some ((([] : List Int)), false)))
set_option maxHeartbeats 8000000 in
set_option maxRecDepth 100000 in
theorem impl_TreeFirst.calls (k : Nat) (a0 : Int) (A1 : Option Addr) (c1 : Nat) (l1 : List (S32)) (r1 : List Int) (r2 : Bool) (w : World) (hr1 : Kd.C k32 w A1 l1.length l1) (hc1 : l1.length ≤ c1) (h : impl_TreeFirst.f k a0 l1 = some (r1, r2)) :
    Calls Try.prog 10 #[.int .i64 a0, .slice A1 l1.length c1] w fun e w' => ∃ v0_ : Value, e = .returned (.tuple #[v0_, .bool r2]) ∧ Kd.R (Kd.int .i64) 3 w' w.heap.size (fun _ => True) v0_ r1 ∧ Below w.heap.size w w' := by
  have hu32 := Try.underlying32
  have HR1 := Aside0.mk hr1
  have HC1 := Aside0.mk hc1
  clear hr1 hc1
  have HB := Aside0.mk (Below.refl w.heap.size w)
  have H : ((impl_NetWhole.f k a0 l1).bind fun t223 => (if t223 = true then (impl_TreeFirst.l0 k a0 l1 (([] : List Int)) l1 (l1.length : Int) 0) else (some ((([] : List Int)), false)))) = some (r1, r2) := h
  clear h
  replace H := Option.bind_eq_some_iff.mp H
  obtain ⟨t223, A30, H⟩ := H
  replace H : (if t223 = true then (impl_TreeFirst.l0 k a0 l1 (([] : List Int)) l1 (l1.length : Int) 0) else (some ((([] : List Int)), false))) = some (r1, r2) := H
  have A3 := Aside0.mk A30
  clear A30
  by_cases c4 : t223 = true
  · subst c4
    have H1 : (impl_TreeFirst.l0 k a0 l1 (([] : List Int)) l1 (l1.length : Int) 0) = some (r1, r2) := by rw [if_pos rfl] at H; exact H
    clear H
    have H := H1
    clear H1
    obtain ⟨y227, hy227⟩ : ∃ y_ : List Int, y_ = (([] : List Int)) := ⟨_, rfl⟩
    replace H : (impl_TreeFirst.l0 k a0 l1 y227 l1 (l1.length : Int) 0) = some (r1, r2) := by first | (rw [hy227]; with_reducible exact H) | (have H2_ := (Option.bind_some _ _).symm.trans H; rw [hy227]; with_reducible exact H2_) | (have H2_ := (Option.bind_some _ _).symm.trans H; with_reducible exact H2_) | with_reducible exact H | (rw [hy227]; exact H) | exact H
    have Ny227 := Aside0.mk hy227
    clear hy227
    have H' := Aside0.mk H
    clear H
    go_enter Try.func10, Try.ntmps10
    go_wp2_with (first | (go_at_call 13; (with_reducible refine (impl_NetWhole.calls k a0 _ _ l1 true _ ?side1 ?side2 A3.out).mono ?_); (case side1 => exact qq15 HR1.out); (case side2 => exact HC1.out); rintro e w5 ⟨rfl, hb⟩; have n0_ := Aside0.mk (below_step qq1 hb); clear HB; have HB := n0_; clear n0_; (try clear hb); (try clear hb2); (try clear hk); (try clear hi)) | ((with_reducible refine gate_dst (N := 15) rfl ?_); refine Kd.R_lit (Kd.int .i64) _ 3 ?hg (N := 15) ?hd (xs := ([] : List Int)) (inner := []) (ok := fun _ => True) (okp := fun _ => True) ?hr ?hp (fun _ hk => hk) trivial (Below.refl _ _) (Nat.le_refl _) (by simp) ?_; (case hd => rfl); (case hg => rfl); (case hr => exact qq16); (case hp => exact (Reps.none _ _)); intro v228 w6 ho7 hb hg_ hnew_; clear hg_ hnew_; (first | rw [← Ny227.out] at ho7 | (simp only [Int.reduceToNat] at ho7; rw [← Ny227.out] at ho7)); have n0_ := Aside0.mk (Kd.R_lower ho7 (below_size qq1)); have n1_ := Aside0.mk (below_step qq1 hb); clear HB; have HO229 := n0_; have HB := n1_; clear n0_ n1_; clear hb ho7))
    repeat (go_quiet (first | (go_at_call 13; (with_reducible refine (impl_NetWhole.calls k a0 _ _ l1 true _ ?side1 ?side2 A3.out).mono ?_); (case side1 => exact qq15 HR1.out); (case side2 => exact HC1.out); rintro e w5 ⟨rfl, hb⟩; have n0_ := Aside0.mk (below_step qq1 hb); clear HB; have HB := n0_; clear n0_; (try clear hb); (try clear hb2); (try clear hk); (try clear hi)) | ((with_reducible refine gate_dst (N := 15) rfl ?_); refine Kd.R_lit (Kd.int .i64) _ 3 ?hg (N := 15) ?hd (xs := ([] : List Int)) (inner := []) (ok := fun _ => True) (okp := fun _ => True) ?hr ?hp (fun _ hk => hk) trivial (Below.refl _ _) (Nat.le_refl _) (by simp) ?_; (case hd => rfl); (case hg => rfl); (case hr => exact qq16); (case hp => exact (Reps.none _ _)); intro v228 w6 ho7 hb hg_ hnew_; clear hg_ hnew_; (first | rw [← Ny227.out] at ho7 | (simp only [Int.reduceToNat] at ho7; rw [← Ny227.out] at ho7)); have n0_ := Aside0.mk (Kd.R_lower ho7 (below_size qq1)); have n1_ := Aside0.mk (below_step qq1 hb); clear HB; have HO229 := n0_; have HB := n1_; clear n0_ n1_; clear hb ho7)); try go_wp2_with (first | (go_at_call 13; (with_reducible refine (impl_NetWhole.calls k a0 _ _ l1 true _ ?side1 ?side2 A3.out).mono ?_); (case side1 => exact qq15 HR1.out); (case side2 => exact HC1.out); rintro e w5 ⟨rfl, hb⟩; have n0_ := Aside0.mk (below_step qq1 hb); clear HB; have HB := n0_; clear n0_; (try clear hb); (try clear hb2); (try clear hk); (try clear hi)) | ((with_reducible refine gate_dst (N := 15) rfl ?_); refine Kd.R_lit (Kd.int .i64) _ 3 ?hg (N := 15) ?hd (xs := ([] : List Int)) (inner := []) (ok := fun _ => True) (okp := fun _ => True) ?hr ?hp (fun _ hk => hk) trivial (Below.refl _ _) (Nat.le_refl _) (by simp) ?_; (case hd => rfl); (case hg => rfl); (case hr => exact qq16); (case hp => exact (Reps.none _ _)); intro v228 w6 ho7 hb hg_ hnew_; clear hg_ hnew_; (first | rw [← Ny227.out] at ho7 | (simp only [Int.reduceToNat] at ho7; rw [← Ny227.out] at ho7)); have n0_ := Aside0.mk (Kd.R_lower ho7 (below_size qq1)); have n1_ := Aside0.mk (below_step qq1 hb); clear HB; have HO229 := n0_; have HB := n1_; clear n0_ n1_; clear hb ho7)))
    go_loopg [6, 18] k (fun kq v6 v18 w' => ∃ (x6_1 : List Int) (x18_1 : Int), v18 = .int .i64 x18_1 ∧ Aside0 (impl_TreeFirst.l0 kq a0 l1 x6_1 l1 (l1.length : Int) x18_1 = some (r1, r2)) ∧ Aside0 (kq ≤ k) ∧ Aside0 (Kd.R (Kd.int .i64) 3 w' w.heap.size (fun _ => True) v6 x6_1) ∧ Aside0 (Below w.heap.size w w'))
    case atStart => exact ⟨(y227), (0), qq14, H', ⟨Nat.le_refl _⟩, ⟨qq2 HO229.out⟩, ⟨qq1⟩⟩
    case round =>
      clear H'
      try clear c1
      try clear p2
      try clear c4
      obtain ⟨x6_1, x18_1, rfl, HA, HK1, HO_6, HB⟩ := hrel
      cases gk with
      | zero => exact absurd HA.out (by simp [impl_TreeFirst.l0])
      | succ k1 =>
        have H := HA.out
        clear HA
        simp only [impl_TreeFirst.l0] at H
        by_cases c8 : x18_1 < (l1.length : Int)
        · rw [if_pos c8] at H
          have c8b0 : decide (x18_1 < (l1.length : Int)) = true := decide_eq_true c8
          clear c8
          by_cases c9 : 0 ≤ x18_1
          · rw [if_pos c9] at H
            have c9b0 : decide (0 ≤ x18_1) = true := decide_eq_true c9
            clear c9
            by_cases c10 : x18_1 < (l1.length : Int)
            · rw [if_pos c10] at H
              have c10b0 : decide (x18_1 < (l1.length : Int)) = true := decide_eq_true c10
              clear c10
              replace H := Option.bind_eq_some_iff.mp H
              obtain ⟨t232, A110, H⟩ := H
              replace H : ((impl_leastLinked.f a0 t232).bind fun t235 => (if 0 ≤ ((rd_T32 l1 x18_1).f0) then (if ((rd_T32 l1 x18_1).f0) < (t235.length : Int) then (if 0 ≤ ((rd_T32 l1 x18_1).f1) then (if ((rd_T32 l1 x18_1).f1) < (t235.length : Int) then (if (rd t235 ((rd_T32 l1 x18_1).f0)) = (rd t235 ((rd_T32 l1 x18_1).f1)) then (impl_TreeFirst.l0 k1 a0 l1 x6_1 l1 (l1.length : Int) (wrap64 (x18_1 + 1))) else (if x6_1.length < 17592186044416 then (impl_TreeFirst.l0 k1 a0 l1 (x6_1 ++ [x18_1]) l1 (l1.length : Int) (wrap64 (x18_1 + 1))) else (none))) else (none)) else (none)) else (none)) else (none))) = some (r1, r2) := H
              have A11 := Aside0.mk A110
              clear A110
              replace H := Option.bind_eq_some_iff.mp H
              obtain ⟨t235, A120, H⟩ := H
              replace H : (if 0 ≤ ((rd_T32 l1 x18_1).f0) then (if ((rd_T32 l1 x18_1).f0) < (t235.length : Int) then (if 0 ≤ ((rd_T32 l1 x18_1).f1) then (if ((rd_T32 l1 x18_1).f1) < (t235.length : Int) then (if (rd t235 ((rd_T32 l1 x18_1).f0)) = (rd t235 ((rd_T32 l1 x18_1).f1)) then (impl_TreeFirst.l0 k1 a0 l1 x6_1 l1 (l1.length : Int) (wrap64 (x18_1 + 1))) else (if x6_1.length < 17592186044416 then (impl_TreeFirst.l0 k1 a0 l1 (x6_1 ++ [x18_1]) l1 (l1.length : Int) (wrap64 (x18_1 + 1))) else (none))) else (none)) else (none)) else (none)) else (none)) = some (r1, r2) := H
              have A12 := Aside0.mk A120
              clear A120
              by_cases c13 : 0 ≤ ((rd_T32 l1 x18_1).f0)
              · rw [if_pos c13] at H
                have c13b0 : decide (0 ≤ ((rd_T32 l1 x18_1).f0)) = true := decide_eq_true c13
                clear c13
                by_cases c14 : ((rd_T32 l1 x18_1).f0) < (t235.length : Int)
                · rw [if_pos c14] at H
                  have c14b0 : decide (((rd_T32 l1 x18_1).f0) < (t235.length : Int)) = true := decide_eq_true c14
                  clear c14
                  by_cases c15 : 0 ≤ ((rd_T32 l1 x18_1).f1)
                  · rw [if_pos c15] at H
                    have c15b0 : decide (0 ≤ ((rd_T32 l1 x18_1).f1)) = true := decide_eq_true c15
                    clear c15
                    by_cases c16 : ((rd_T32 l1 x18_1).f1) < (t235.length : Int)
                    · rw [if_pos c16] at H
                      have c16b0 : decide (((rd_T32 l1 x18_1).f1) < (t235.length : Int)) = true := decide_eq_true c16
                      clear c16
                      by_cases c17 : (rd t235 ((rd_T32 l1 x18_1).f0)) = (rd t235 ((rd_T32 l1 x18_1).f1))
                      · rw [if_pos c17] at H
                        have c17b0 : ((rd t235 ((rd_T32 l1 x18_1).f0)) == (rd t235 ((rd_T32 l1 x18_1).f1))) = true := beq_iff_eq.mpr c17
                        have c17b1 : ((rd t235 ((rd_T32 l1 x18_1).f0)) != (rd t235 ((rd_T32 l1 x18_1).f1))) = false := bne_eq_false_iff_eq.mpr c17
                        clear c17
                        have H' := Aside0.mk H
                        clear H
                        have p230 : 0 ≤ (x18_1 : Int) := of_decide_eq_true qq3
                        have q230 : x18_1 < (l1.length : Int) := of_decide_eq_true qq3
                        obtain ⟨ad230, e230, hx230_0, hx230_1, hx230_2, hx230_3⟩ := at_T32 HR1.out x18_1 p230 q230
                        cases e230
                        replace hx230_0 := (HB.out.cell (World.block_lt_of_cell? w _ hx230_0)).trans hx230_0
                        replace hx230_1 := (HB.out.cell (World.block_lt_of_cell? w _ hx230_1)).trans hx230_1
                        replace hx230_2 := (HB.out.cell (World.block_lt_of_cell? w _ hx230_2)).trans hx230_2
                        replace hx230_3 := (HB.out.cell (World.block_lt_of_cell? w _ hx230_3)).trans hx230_3
                        replace p230 := eq_true p230
                        replace q230 := eq_true q230
                        go_wp2_with (first | ((with_reducible refine gate_dst (N := 8) rfl ?_); refine box_event ?hg (N := 8) ?hd (cs := #[.int .i64 0, .int .i64 0, .int .i64 0, .int .i64 0]) (t := 32) ?hr ?_; (case hd => rfl); (case hg => rfl); (case hr => exact qq16); intro gb231 hg w18 hbox hb; have n0_ := Aside0.mk (Kd.R_below (qq2 HO_6.out) hb); have n1_ := Aside0.mk (below_step qq1 hb); have n2_ := Aside0.mk (hbox); have n3_ := Aside0.mk ((qq34 : w.heap.size ≤ gb231)); have n4_ := Aside0.mk ((qq34 : w.heap.size ≤ gb231)); clear HO_6; clear HB; have HO_6 := n0_; have HB := n1_; have BK231 := n2_; have GW231 := n3_; have GE231 := n4_; clear n0_ n1_ n2_ n3_ n4_; clear hb hbox hg; have hcz19_0 : w18.cell? ⟨gb231, 0, none⟩ = some (.int .i64 0) := (blk_cell BK231.out 0).trans rfl; have hcz19_1 : w18.cell? ⟨gb231, 1, none⟩ = some (.int .i64 0) := (blk_cell BK231.out 1).trans rfl; have hcz19_2 : w18.cell? ⟨gb231, 2, none⟩ = some (.int .i64 0) := (blk_cell BK231.out 2).trans rfl; have hcz19_3 : w18.cell? ⟨gb231, 3, none⟩ = some (.int .i64 0) := (blk_cell BK231.out 3).trans rfl; have hfz19_0 := blk_frozen BK231.out 0; have hfz19_1 := blk_frozen BK231.out 1; have hfz19_2 := blk_frozen BK231.out 2; have hfz19_3 := blk_frozen BK231.out 3; obtain ⟨Ao20, co20, eo20⟩ := Kd.R_slice HO_6.out; subst eo20) | (go_at_call 27; (with_reducible refine (impl_pick.calls k1 _ _ l1 _ _ x6_1 t232 _ ?side1 ?side2 ?side3 ?side4 A11.out).mono ?_); (case side1 => exact qq67); (case side2 => exact HC1.out); (case side3 => exact qq60); (case side4 => exact qq52 HO_6.out); rintro e w21 ⟨v233, rfl, ho0, hb⟩; have n0_ := Aside0.mk (Kd.R_below qq13 hb); have n1_ := Aside0.mk (Kd.R_lower (Kd.R_newB ho0 (g := gb231) (o := .cells #[.int .i64 ((rd_T32 l1 x18_1).f0), .int .i64 ((rd_T32 l1 x18_1).f1), .int .i64 ((rd_T32 l1 x18_1).f2), .int .i64 ((rd_T32 l1 x18_1).f3)] 32 (0, 0)) qq7) (below_size (qq4 HB.out GE231.out))); have n2_ := Aside0.mk (blk_below (g := gb231) (o := .cells #[.int .i64 ((rd_T32 l1 x18_1).f0), .int .i64 ((rd_T32 l1 x18_1).f1), .int .i64 ((rd_T32 l1 x18_1).f2), .int .i64 ((rd_T32 l1 x18_1).f3)] 32 (0, 0)) qq7 hb); have n3_ := Aside0.mk (below_step (qq4 HB.out GE231.out) hb); clear HO_6; clear BK231; clear HB; have HO_6 := n0_; have HO234 := n1_; have BK231 := n2_; have HB := n3_; clear n0_ n1_ n2_ n3_; (try clear hb); (try clear hb2); (try clear hk); (try clear hi); (try clear ho0); obtain ⟨Ao22, co22, eo22⟩ := Kd.R_slice HO234.out; subst eo22) | (go_at_call 26; (with_reducible refine (impl_leastLinked.calls a0 _ _ t232 t235 _ ?side1 ?side2 A12.out).mono ?_); (case side1 => exact qq12 HO234.out); (case side2 => exact qq52 HO234.out); rintro e w23 ⟨v236, rfl, ho0, hb⟩; have n0_ := Aside0.mk (Kd.R_elder' (qq2 HO_6.out) (Kd.R_base ho0) hb); have n1_ := Aside0.mk (Kd.R_below (qq2 HO234.out) hb); have n2_ := Aside0.mk (Kd.R_lower (Kd.R_new' ho0 (Kd.R_lt (qq2 HO_6.out))) (below_size (qq4 HB.out GE231.out))); have n3_ := Aside0.mk (bbl_ BK231.out hb); have n4_ := Aside0.mk (below_step (qq4 HB.out GE231.out) hb); clear HO_6; clear HO234; clear BK231; clear HB; have HO_6 := n0_; have HO234 := n1_; have HO237 := n2_; have BK231 := n3_; have HB := n4_; clear n0_ n1_ n2_ n3_ n4_; (try clear hb); (try clear hb2); (try clear hk); (try clear hi); (try clear ho0); have hcz24_0 : w23.cell? ⟨gb231, 0, none⟩ = some (.int .i64 ((rd_T32 l1 x18_1).f0)) := (blk_cell BK231.out 0).trans rfl; have hcz24_1 : w23.cell? ⟨gb231, 1, none⟩ = some (.int .i64 ((rd_T32 l1 x18_1).f1)) := (blk_cell BK231.out 1).trans rfl; have hcz24_2 : w23.cell? ⟨gb231, 2, none⟩ = some (.int .i64 ((rd_T32 l1 x18_1).f2)) := (blk_cell BK231.out 2).trans rfl; have hcz24_3 : w23.cell? ⟨gb231, 3, none⟩ = some (.int .i64 ((rd_T32 l1 x18_1).f3)) := (blk_cell BK231.out 3).trans rfl; have hfz24_0 := blk_frozen BK231.out 0; have hfz24_1 := blk_frozen BK231.out 1; have hfz24_2 := blk_frozen BK231.out 2; have hfz24_3 := blk_frozen BK231.out 3; obtain ⟨Ao25, co25, eo25⟩ := Kd.R_slice HO237.out; subst eo25; have p238 : 0 ≤ (((rd_T32 l1 x18_1).f0) : Int) := of_decide_eq_true qq3; have q238 : ((rd_T32 l1 x18_1).f0) < (t235.length : Int) := of_decide_eq_true qq3; obtain ⟨ad238, e238, hx238_0⟩ := Kd.at_int (Kd.R_reads' HO237.out).2.2 ((rd_T32 l1 x18_1).f0) p238 q238; cases e238; replace p238 := eq_true p238; replace q238 := eq_true q238; have p239 : 0 ≤ (((rd_T32 l1 x18_1).f1) : Int) := of_decide_eq_true qq3; have q239 : ((rd_T32 l1 x18_1).f1) < (t235.length : Int) := of_decide_eq_true qq3; obtain ⟨ad239, e239, hx239_0⟩ := Kd.at_int (Kd.R_reads' HO237.out).2.2 ((rd_T32 l1 x18_1).f1) p239 q239; obtain rfl : ad238 = ad239 := (by injection e239); replace p239 := eq_true p239; replace q239 := eq_true q239))
                        repeat (go_quiet (first | ((with_reducible refine gate_dst (N := 8) rfl ?_); refine box_event ?hg (N := 8) ?hd (cs := #[.int .i64 0, .int .i64 0, .int .i64 0, .int .i64 0]) (t := 32) ?hr ?_; (case hd => rfl); (case hg => rfl); (case hr => exact qq16); intro gb231 hg w18 hbox hb; have n0_ := Aside0.mk (Kd.R_below (qq2 HO_6.out) hb); have n1_ := Aside0.mk (below_step qq1 hb); have n2_ := Aside0.mk (hbox); have n3_ := Aside0.mk ((qq34 : w.heap.size ≤ gb231)); have n4_ := Aside0.mk ((qq34 : w.heap.size ≤ gb231)); clear HO_6; clear HB; have HO_6 := n0_; have HB := n1_; have BK231 := n2_; have GW231 := n3_; have GE231 := n4_; clear n0_ n1_ n2_ n3_ n4_; clear hb hbox hg; have hcz19_0 : w18.cell? ⟨gb231, 0, none⟩ = some (.int .i64 0) := (blk_cell BK231.out 0).trans rfl; have hcz19_1 : w18.cell? ⟨gb231, 1, none⟩ = some (.int .i64 0) := (blk_cell BK231.out 1).trans rfl; have hcz19_2 : w18.cell? ⟨gb231, 2, none⟩ = some (.int .i64 0) := (blk_cell BK231.out 2).trans rfl; have hcz19_3 : w18.cell? ⟨gb231, 3, none⟩ = some (.int .i64 0) := (blk_cell BK231.out 3).trans rfl; have hfz19_0 := blk_frozen BK231.out 0; have hfz19_1 := blk_frozen BK231.out 1; have hfz19_2 := blk_frozen BK231.out 2; have hfz19_3 := blk_frozen BK231.out 3; obtain ⟨Ao20, co20, eo20⟩ := Kd.R_slice HO_6.out; subst eo20) | (go_at_call 27; (with_reducible refine (impl_pick.calls k1 _ _ l1 _ _ x6_1 t232 _ ?side1 ?side2 ?side3 ?side4 A11.out).mono ?_); (case side1 => exact qq67); (case side2 => exact HC1.out); (case side3 => exact qq60); (case side4 => exact qq52 HO_6.out); rintro e w21 ⟨v233, rfl, ho0, hb⟩; have n0_ := Aside0.mk (Kd.R_below qq13 hb); have n1_ := Aside0.mk (Kd.R_lower (Kd.R_newB ho0 (g := gb231) (o := .cells #[.int .i64 ((rd_T32 l1 x18_1).f0), .int .i64 ((rd_T32 l1 x18_1).f1), .int .i64 ((rd_T32 l1 x18_1).f2), .int .i64 ((rd_T32 l1 x18_1).f3)] 32 (0, 0)) qq7) (below_size (qq4 HB.out GE231.out))); have n2_ := Aside0.mk (blk_below (g := gb231) (o := .cells #[.int .i64 ((rd_T32 l1 x18_1).f0), .int .i64 ((rd_T32 l1 x18_1).f1), .int .i64 ((rd_T32 l1 x18_1).f2), .int .i64 ((rd_T32 l1 x18_1).f3)] 32 (0, 0)) qq7 hb); have n3_ := Aside0.mk (below_step (qq4 HB.out GE231.out) hb); clear HO_6; clear BK231; clear HB; have HO_6 := n0_; have HO234 := n1_; have BK231 := n2_; have HB := n3_; clear n0_ n1_ n2_ n3_; (try clear hb); (try clear hb2); (try clear hk); (try clear hi); (try clear ho0); obtain ⟨Ao22, co22, eo22⟩ := Kd.R_slice HO234.out; subst eo22) | (go_at_call 26; (with_reducible refine (impl_leastLinked.calls a0 _ _ t232 t235 _ ?side1 ?side2 A12.out).mono ?_); (case side1 => exact qq12 HO234.out); (case side2 => exact qq52 HO234.out); rintro e w23 ⟨v236, rfl, ho0, hb⟩; have n0_ := Aside0.mk (Kd.R_elder' (qq2 HO_6.out) (Kd.R_base ho0) hb); have n1_ := Aside0.mk (Kd.R_below (qq2 HO234.out) hb); have n2_ := Aside0.mk (Kd.R_lower (Kd.R_new' ho0 (Kd.R_lt (qq2 HO_6.out))) (below_size (qq4 HB.out GE231.out))); have n3_ := Aside0.mk (bbl_ BK231.out hb); have n4_ := Aside0.mk (below_step (qq4 HB.out GE231.out) hb); clear HO_6; clear HO234; clear BK231; clear HB; have HO_6 := n0_; have HO234 := n1_; have HO237 := n2_; have BK231 := n3_; have HB := n4_; clear n0_ n1_ n2_ n3_ n4_; (try clear hb); (try clear hb2); (try clear hk); (try clear hi); (try clear ho0); have hcz24_0 : w23.cell? ⟨gb231, 0, none⟩ = some (.int .i64 ((rd_T32 l1 x18_1).f0)) := (blk_cell BK231.out 0).trans rfl; have hcz24_1 : w23.cell? ⟨gb231, 1, none⟩ = some (.int .i64 ((rd_T32 l1 x18_1).f1)) := (blk_cell BK231.out 1).trans rfl; have hcz24_2 : w23.cell? ⟨gb231, 2, none⟩ = some (.int .i64 ((rd_T32 l1 x18_1).f2)) := (blk_cell BK231.out 2).trans rfl; have hcz24_3 : w23.cell? ⟨gb231, 3, none⟩ = some (.int .i64 ((rd_T32 l1 x18_1).f3)) := (blk_cell BK231.out 3).trans rfl; have hfz24_0 := blk_frozen BK231.out 0; have hfz24_1 := blk_frozen BK231.out 1; have hfz24_2 := blk_frozen BK231.out 2; have hfz24_3 := blk_frozen BK231.out 3; obtain ⟨Ao25, co25, eo25⟩ := Kd.R_slice HO237.out; subst eo25; have p238 : 0 ≤ (((rd_T32 l1 x18_1).f0) : Int) := of_decide_eq_true qq3; have q238 : ((rd_T32 l1 x18_1).f0) < (t235.length : Int) := of_decide_eq_true qq3; obtain ⟨ad238, e238, hx238_0⟩ := Kd.at_int (Kd.R_reads' HO237.out).2.2 ((rd_T32 l1 x18_1).f0) p238 q238; cases e238; replace p238 := eq_true p238; replace q238 := eq_true q238; have p239 : 0 ≤ (((rd_T32 l1 x18_1).f1) : Int) := of_decide_eq_true qq3; have q239 : ((rd_T32 l1 x18_1).f1) < (t235.length : Int) := of_decide_eq_true qq3; obtain ⟨ad239, e239, hx239_0⟩ := Kd.at_int (Kd.R_reads' HO237.out).2.2 ((rd_T32 l1 x18_1).f1) p239 q239; obtain rfl : ad238 = ad239 := (by injection e239); replace p239 := eq_true p239; replace q239 := eq_true q239)); try go_wp2_with (first | ((with_reducible refine gate_dst (N := 8) rfl ?_); refine box_event ?hg (N := 8) ?hd (cs := #[.int .i64 0, .int .i64 0, .int .i64 0, .int .i64 0]) (t := 32) ?hr ?_; (case hd => rfl); (case hg => rfl); (case hr => exact qq16); intro gb231 hg w18 hbox hb; have n0_ := Aside0.mk (Kd.R_below (qq2 HO_6.out) hb); have n1_ := Aside0.mk (below_step qq1 hb); have n2_ := Aside0.mk (hbox); have n3_ := Aside0.mk ((qq34 : w.heap.size ≤ gb231)); have n4_ := Aside0.mk ((qq34 : w.heap.size ≤ gb231)); clear HO_6; clear HB; have HO_6 := n0_; have HB := n1_; have BK231 := n2_; have GW231 := n3_; have GE231 := n4_; clear n0_ n1_ n2_ n3_ n4_; clear hb hbox hg; have hcz19_0 : w18.cell? ⟨gb231, 0, none⟩ = some (.int .i64 0) := (blk_cell BK231.out 0).trans rfl; have hcz19_1 : w18.cell? ⟨gb231, 1, none⟩ = some (.int .i64 0) := (blk_cell BK231.out 1).trans rfl; have hcz19_2 : w18.cell? ⟨gb231, 2, none⟩ = some (.int .i64 0) := (blk_cell BK231.out 2).trans rfl; have hcz19_3 : w18.cell? ⟨gb231, 3, none⟩ = some (.int .i64 0) := (blk_cell BK231.out 3).trans rfl; have hfz19_0 := blk_frozen BK231.out 0; have hfz19_1 := blk_frozen BK231.out 1; have hfz19_2 := blk_frozen BK231.out 2; have hfz19_3 := blk_frozen BK231.out 3; obtain ⟨Ao20, co20, eo20⟩ := Kd.R_slice HO_6.out; subst eo20) | (go_at_call 27; (with_reducible refine (impl_pick.calls k1 _ _ l1 _ _ x6_1 t232 _ ?side1 ?side2 ?side3 ?side4 A11.out).mono ?_); (case side1 => exact qq67); (case side2 => exact HC1.out); (case side3 => exact qq60); (case side4 => exact qq52 HO_6.out); rintro e w21 ⟨v233, rfl, ho0, hb⟩; have n0_ := Aside0.mk (Kd.R_below qq13 hb); have n1_ := Aside0.mk (Kd.R_lower (Kd.R_newB ho0 (g := gb231) (o := .cells #[.int .i64 ((rd_T32 l1 x18_1).f0), .int .i64 ((rd_T32 l1 x18_1).f1), .int .i64 ((rd_T32 l1 x18_1).f2), .int .i64 ((rd_T32 l1 x18_1).f3)] 32 (0, 0)) qq7) (below_size (qq4 HB.out GE231.out))); have n2_ := Aside0.mk (blk_below (g := gb231) (o := .cells #[.int .i64 ((rd_T32 l1 x18_1).f0), .int .i64 ((rd_T32 l1 x18_1).f1), .int .i64 ((rd_T32 l1 x18_1).f2), .int .i64 ((rd_T32 l1 x18_1).f3)] 32 (0, 0)) qq7 hb); have n3_ := Aside0.mk (below_step (qq4 HB.out GE231.out) hb); clear HO_6; clear BK231; clear HB; have HO_6 := n0_; have HO234 := n1_; have BK231 := n2_; have HB := n3_; clear n0_ n1_ n2_ n3_; (try clear hb); (try clear hb2); (try clear hk); (try clear hi); (try clear ho0); obtain ⟨Ao22, co22, eo22⟩ := Kd.R_slice HO234.out; subst eo22) | (go_at_call 26; (with_reducible refine (impl_leastLinked.calls a0 _ _ t232 t235 _ ?side1 ?side2 A12.out).mono ?_); (case side1 => exact qq12 HO234.out); (case side2 => exact qq52 HO234.out); rintro e w23 ⟨v236, rfl, ho0, hb⟩; have n0_ := Aside0.mk (Kd.R_elder' (qq2 HO_6.out) (Kd.R_base ho0) hb); have n1_ := Aside0.mk (Kd.R_below (qq2 HO234.out) hb); have n2_ := Aside0.mk (Kd.R_lower (Kd.R_new' ho0 (Kd.R_lt (qq2 HO_6.out))) (below_size (qq4 HB.out GE231.out))); have n3_ := Aside0.mk (bbl_ BK231.out hb); have n4_ := Aside0.mk (below_step (qq4 HB.out GE231.out) hb); clear HO_6; clear HO234; clear BK231; clear HB; have HO_6 := n0_; have HO234 := n1_; have HO237 := n2_; have BK231 := n3_; have HB := n4_; clear n0_ n1_ n2_ n3_ n4_; (try clear hb); (try clear hb2); (try clear hk); (try clear hi); (try clear ho0); have hcz24_0 : w23.cell? ⟨gb231, 0, none⟩ = some (.int .i64 ((rd_T32 l1 x18_1).f0)) := (blk_cell BK231.out 0).trans rfl; have hcz24_1 : w23.cell? ⟨gb231, 1, none⟩ = some (.int .i64 ((rd_T32 l1 x18_1).f1)) := (blk_cell BK231.out 1).trans rfl; have hcz24_2 : w23.cell? ⟨gb231, 2, none⟩ = some (.int .i64 ((rd_T32 l1 x18_1).f2)) := (blk_cell BK231.out 2).trans rfl; have hcz24_3 : w23.cell? ⟨gb231, 3, none⟩ = some (.int .i64 ((rd_T32 l1 x18_1).f3)) := (blk_cell BK231.out 3).trans rfl; have hfz24_0 := blk_frozen BK231.out 0; have hfz24_1 := blk_frozen BK231.out 1; have hfz24_2 := blk_frozen BK231.out 2; have hfz24_3 := blk_frozen BK231.out 3; obtain ⟨Ao25, co25, eo25⟩ := Kd.R_slice HO237.out; subst eo25; have p238 : 0 ≤ (((rd_T32 l1 x18_1).f0) : Int) := of_decide_eq_true qq3; have q238 : ((rd_T32 l1 x18_1).f0) < (t235.length : Int) := of_decide_eq_true qq3; obtain ⟨ad238, e238, hx238_0⟩ := Kd.at_int (Kd.R_reads' HO237.out).2.2 ((rd_T32 l1 x18_1).f0) p238 q238; cases e238; replace p238 := eq_true p238; replace q238 := eq_true q238; have p239 : 0 ≤ (((rd_T32 l1 x18_1).f1) : Int) := of_decide_eq_true qq3; have q239 : ((rd_T32 l1 x18_1).f1) < (t235.length : Int) := of_decide_eq_true qq3; obtain ⟨ad239, e239, hx239_0⟩ := Kd.at_int (Kd.R_reads' HO237.out).2.2 ((rd_T32 l1 x18_1).f1) p239 q239; obtain rfl : ad238 = ad239 := (by injection e239); replace p239 := eq_true p239; replace q239 := eq_true q239)))
                        go_roundg k1
                        case measure => have := HK1.out; omega
                        case rel => exact ⟨(x6_1), (wrap64 (x18_1 + 1)), qq14, H', ⟨by have := HK1.out; omega⟩, ⟨qq17 HO_6.out⟩, ⟨qq4 HB.out GE231.out⟩⟩
                      · rw [if_neg c17] at H
                        have c17b0 : ((rd t235 ((rd_T32 l1 x18_1).f0)) == (rd t235 ((rd_T32 l1 x18_1).f1))) = false := beq_eq_false_iff_ne.mpr c17
                        have c17b1 : ((rd t235 ((rd_T32 l1 x18_1).f0)) != (rd t235 ((rd_T32 l1 x18_1).f1))) = true := bne_iff_ne.mpr c17
                        by_cases c26 : x6_1.length < 17592186044416
                        · rw [if_pos c26] at H
                          have LMc26 := Aside0.mk c26
                          clear c26
                          obtain ⟨y240, hy240⟩ : ∃ y_ : List Int, y_ = (x6_1 ++ [x18_1]) := ⟨_, rfl⟩
                          replace H : (impl_TreeFirst.l0 k1 a0 l1 y240 l1 (l1.length : Int) (wrap64 (x18_1 + 1))) = some (r1, r2) := by first | (rw [hy240]; with_reducible exact H) | (have H2_ := (Option.bind_some _ _).symm.trans H; rw [hy240]; with_reducible exact H2_) | (have H2_ := (Option.bind_some _ _).symm.trans H; with_reducible exact H2_) | with_reducible exact H | (rw [hy240]; exact H) | exact H
                          have Ny240 := Aside0.mk hy240
                          clear hy240
                          have H' := Aside0.mk H
                          clear H
                          have p230 : 0 ≤ (x18_1 : Int) := of_decide_eq_true qq3
                          have q230 : x18_1 < (l1.length : Int) := of_decide_eq_true qq3
                          obtain ⟨ad230, e230, hx230_0, hx230_1, hx230_2, hx230_3⟩ := at_T32 HR1.out x18_1 p230 q230
                          cases e230
                          replace hx230_0 := (HB.out.cell (World.block_lt_of_cell? w _ hx230_0)).trans hx230_0
                          replace hx230_1 := (HB.out.cell (World.block_lt_of_cell? w _ hx230_1)).trans hx230_1
                          replace hx230_2 := (HB.out.cell (World.block_lt_of_cell? w _ hx230_2)).trans hx230_2
                          replace hx230_3 := (HB.out.cell (World.block_lt_of_cell? w _ hx230_3)).trans hx230_3
                          replace p230 := eq_true p230
                          replace q230 := eq_true q230
                          go_wp2_with (first | ((with_reducible refine gate_dst (N := 8) rfl ?_); refine box_event ?hg (N := 8) ?hd (cs := #[.int .i64 0, .int .i64 0, .int .i64 0, .int .i64 0]) (t := 32) ?hr ?_; (case hd => rfl); (case hg => rfl); (case hr => exact qq16); intro gb231 hg w27 hbox hb; have n0_ := Aside0.mk (Kd.R_below (qq2 HO_6.out) hb); have n1_ := Aside0.mk (below_step qq1 hb); have n2_ := Aside0.mk (hbox); have n3_ := Aside0.mk ((qq34 : w.heap.size ≤ gb231)); have n4_ := Aside0.mk ((qq34 : w.heap.size ≤ gb231)); clear HO_6; clear HB; have HO_6 := n0_; have HB := n1_; have BK231 := n2_; have GW231 := n3_; have GE231 := n4_; clear n0_ n1_ n2_ n3_ n4_; clear hb hbox hg; have hcz28_0 : w27.cell? ⟨gb231, 0, none⟩ = some (.int .i64 0) := (blk_cell BK231.out 0).trans rfl; have hcz28_1 : w27.cell? ⟨gb231, 1, none⟩ = some (.int .i64 0) := (blk_cell BK231.out 1).trans rfl; have hcz28_2 : w27.cell? ⟨gb231, 2, none⟩ = some (.int .i64 0) := (blk_cell BK231.out 2).trans rfl; have hcz28_3 : w27.cell? ⟨gb231, 3, none⟩ = some (.int .i64 0) := (blk_cell BK231.out 3).trans rfl; have hfz28_0 := blk_frozen BK231.out 0; have hfz28_1 := blk_frozen BK231.out 1; have hfz28_2 := blk_frozen BK231.out 2; have hfz28_3 := blk_frozen BK231.out 3; obtain ⟨Ao29, co29, eo29⟩ := Kd.R_slice HO_6.out; subst eo29) | (go_at_call 27; (with_reducible refine (impl_pick.calls k1 _ _ l1 _ _ x6_1 t232 _ ?side1 ?side2 ?side3 ?side4 A11.out).mono ?_); (case side1 => exact qq67); (case side2 => exact HC1.out); (case side3 => exact qq61); (case side4 => exact qq52 HO_6.out); rintro e w30 ⟨v233, rfl, ho0, hb⟩; have n0_ := Aside0.mk (Kd.R_below qq13 hb); have n1_ := Aside0.mk (Kd.R_lower (Kd.R_newB ho0 (g := gb231) (o := .cells #[.int .i64 ((rd_T32 l1 x18_1).f0), .int .i64 ((rd_T32 l1 x18_1).f1), .int .i64 ((rd_T32 l1 x18_1).f2), .int .i64 ((rd_T32 l1 x18_1).f3)] 32 (0, 0)) qq7) (below_size (qq4 HB.out GE231.out))); have n2_ := Aside0.mk (blk_below (g := gb231) (o := .cells #[.int .i64 ((rd_T32 l1 x18_1).f0), .int .i64 ((rd_T32 l1 x18_1).f1), .int .i64 ((rd_T32 l1 x18_1).f2), .int .i64 ((rd_T32 l1 x18_1).f3)] 32 (0, 0)) qq7 hb); have n3_ := Aside0.mk (below_step (qq4 HB.out GE231.out) hb); clear HO_6; clear BK231; clear HB; have HO_6 := n0_; have HO234 := n1_; have BK231 := n2_; have HB := n3_; clear n0_ n1_ n2_ n3_; (try clear hb); (try clear hb2); (try clear hk); (try clear hi); (try clear ho0); obtain ⟨Ao31, co31, eo31⟩ := Kd.R_slice HO234.out; subst eo31) | (go_at_call 26; (with_reducible refine (impl_leastLinked.calls a0 _ _ t232 t235 _ ?side1 ?side2 A12.out).mono ?_); (case side1 => exact qq12 HO234.out); (case side2 => exact qq52 HO234.out); rintro e w32 ⟨v236, rfl, ho0, hb⟩; have n0_ := Aside0.mk (Kd.R_elder' (qq2 HO_6.out) (Kd.R_base ho0) hb); have n1_ := Aside0.mk (Kd.R_below (qq2 HO234.out) hb); have n2_ := Aside0.mk (Kd.R_lower (Kd.R_new' ho0 (Kd.R_lt (qq2 HO_6.out))) (below_size (qq4 HB.out GE231.out))); have n3_ := Aside0.mk (bbl_ BK231.out hb); have n4_ := Aside0.mk (below_step (qq4 HB.out GE231.out) hb); clear HO_6; clear HO234; clear BK231; clear HB; have HO_6 := n0_; have HO234 := n1_; have HO237 := n2_; have BK231 := n3_; have HB := n4_; clear n0_ n1_ n2_ n3_ n4_; (try clear hb); (try clear hb2); (try clear hk); (try clear hi); (try clear ho0); have hcz33_0 : w32.cell? ⟨gb231, 0, none⟩ = some (.int .i64 ((rd_T32 l1 x18_1).f0)) := (blk_cell BK231.out 0).trans rfl; have hcz33_1 : w32.cell? ⟨gb231, 1, none⟩ = some (.int .i64 ((rd_T32 l1 x18_1).f1)) := (blk_cell BK231.out 1).trans rfl; have hcz33_2 : w32.cell? ⟨gb231, 2, none⟩ = some (.int .i64 ((rd_T32 l1 x18_1).f2)) := (blk_cell BK231.out 2).trans rfl; have hcz33_3 : w32.cell? ⟨gb231, 3, none⟩ = some (.int .i64 ((rd_T32 l1 x18_1).f3)) := (blk_cell BK231.out 3).trans rfl; have hfz33_0 := blk_frozen BK231.out 0; have hfz33_1 := blk_frozen BK231.out 1; have hfz33_2 := blk_frozen BK231.out 2; have hfz33_3 := blk_frozen BK231.out 3; obtain ⟨Ao34, co34, eo34⟩ := Kd.R_slice HO237.out; subst eo34; have p238 : 0 ≤ (((rd_T32 l1 x18_1).f0) : Int) := of_decide_eq_true qq3; have q238 : ((rd_T32 l1 x18_1).f0) < (t235.length : Int) := of_decide_eq_true qq3; obtain ⟨ad238, e238, hx238_0⟩ := Kd.at_int (Kd.R_reads' HO237.out).2.2 ((rd_T32 l1 x18_1).f0) p238 q238; cases e238; replace p238 := eq_true p238; replace q238 := eq_true q238; have p239 : 0 ≤ (((rd_T32 l1 x18_1).f1) : Int) := of_decide_eq_true qq3; have q239 : ((rd_T32 l1 x18_1).f1) < (t235.length : Int) := of_decide_eq_true qq3; obtain ⟨ad239, e239, hx239_0⟩ := Kd.at_int (Kd.R_reads' HO237.out).2.2 ((rd_T32 l1 x18_1).f1) p239 q239; obtain rfl : ad238 = ad239 := (by injection e239); replace p239 := eq_true p239; replace q239 := eq_true q239) | ((with_reducible refine gate_builtin (b := .append) (xs := #[.tmp 39, .tmp 41]) rfl ?_); at_builtin; refine Kd.R_append (Kd.int .i64) (w0 := w) w.heap.size rfl (.tmp 39) (.tmp 41) 27 3 (.int .i64 0) 8 rfl Try.underlying27 info3 rfl (by decide) (by omega) (.slice Ao29 x6_1.length co29) x6_1 x18_1 [.int .i64 x18_1] (fun k_ => some k_ ≠ (.slice (some ad238) t235.length co34 : Value).ownBlock) (fun _ => False) rfl rfl ?aP (fun _ hk => hk.elim) ?aF ?aO ?aB ?aS ?aL ?_; (case aP => exact rfl); (case aB => exact (qq4 HB.out GE231.out)); (case aF => exact qq55 HO237.out); (case aO => exact (qq32 HO_6.out)); (case aS => exact (below_size (qq4 HB.out GE231.out))); (case aL => have := LMc26.out; omega); intro v241 w35 ho hb hg hat; rw [← Ny240.out] at ho; have n0_ := Aside0.mk (blk_grown (g := gb231) (o := .cells #[.int .i64 ((rd_T32 l1 x18_1).f0), .int .i64 ((rd_T32 l1 x18_1).f1), .int .i64 ((rd_T32 l1 x18_1).f2), .int .i64 ((rd_T32 l1 x18_1).f3)] 32 (0, 0)) (qq23 BK231.out) hg (Kd.R_ne HO_6.out BK231.out (by decide))); have n1_ := Aside0.mk (Kd.R_over' (qq2 HO234.out) (Kd.R_typed (qq2 HO_6.out)) (by decide) hg); have n2_ := Aside0.mk (Kd.R_after (ok := (fun _ => True)) (qq2 HO237.out) hg hat); have n3_ := Aside0.mk (hb); have n4_ := Aside0.mk (ho); clear BK231; clear HO234; clear HO237; clear HB; clear HO_6; have BK231 := n0_; have HO234 := n1_; have HO237 := n2_; have HB := n3_; have HO242 := n4_; clear n0_ n1_ n2_ n3_ n4_; clear ho hb hg hat))
                          repeat (go_quiet (first | ((with_reducible refine gate_dst (N := 8) rfl ?_); refine box_event ?hg (N := 8) ?hd (cs := #[.int .i64 0, .int .i64 0, .int .i64 0, .int .i64 0]) (t := 32) ?hr ?_; (case hd => rfl); (case hg => rfl); (case hr => exact qq16); intro gb231 hg w27 hbox hb; have n0_ := Aside0.mk (Kd.R_below (qq2 HO_6.out) hb); have n1_ := Aside0.mk (below_step qq1 hb); have n2_ := Aside0.mk (hbox); have n3_ := Aside0.mk ((qq34 : w.heap.size ≤ gb231)); have n4_ := Aside0.mk ((qq34 : w.heap.size ≤ gb231)); clear HO_6; clear HB; have HO_6 := n0_; have HB := n1_; have BK231 := n2_; have GW231 := n3_; have GE231 := n4_; clear n0_ n1_ n2_ n3_ n4_; clear hb hbox hg; have hcz28_0 : w27.cell? ⟨gb231, 0, none⟩ = some (.int .i64 0) := (blk_cell BK231.out 0).trans rfl; have hcz28_1 : w27.cell? ⟨gb231, 1, none⟩ = some (.int .i64 0) := (blk_cell BK231.out 1).trans rfl; have hcz28_2 : w27.cell? ⟨gb231, 2, none⟩ = some (.int .i64 0) := (blk_cell BK231.out 2).trans rfl; have hcz28_3 : w27.cell? ⟨gb231, 3, none⟩ = some (.int .i64 0) := (blk_cell BK231.out 3).trans rfl; have hfz28_0 := blk_frozen BK231.out 0; have hfz28_1 := blk_frozen BK231.out 1; have hfz28_2 := blk_frozen BK231.out 2; have hfz28_3 := blk_frozen BK231.out 3; obtain ⟨Ao29, co29, eo29⟩ := Kd.R_slice HO_6.out; subst eo29) | (go_at_call 27; (with_reducible refine (impl_pick.calls k1 _ _ l1 _ _ x6_1 t232 _ ?side1 ?side2 ?side3 ?side4 A11.out).mono ?_); (case side1 => exact qq67); (case side2 => exact HC1.out); (case side3 => exact qq61); (case side4 => exact qq52 HO_6.out); rintro e w30 ⟨v233, rfl, ho0, hb⟩; have n0_ := Aside0.mk (Kd.R_below qq13 hb); have n1_ := Aside0.mk (Kd.R_lower (Kd.R_newB ho0 (g := gb231) (o := .cells #[.int .i64 ((rd_T32 l1 x18_1).f0), .int .i64 ((rd_T32 l1 x18_1).f1), .int .i64 ((rd_T32 l1 x18_1).f2), .int .i64 ((rd_T32 l1 x18_1).f3)] 32 (0, 0)) qq7) (below_size (qq4 HB.out GE231.out))); have n2_ := Aside0.mk (blk_below (g := gb231) (o := .cells #[.int .i64 ((rd_T32 l1 x18_1).f0), .int .i64 ((rd_T32 l1 x18_1).f1), .int .i64 ((rd_T32 l1 x18_1).f2), .int .i64 ((rd_T32 l1 x18_1).f3)] 32 (0, 0)) qq7 hb); have n3_ := Aside0.mk (below_step (qq4 HB.out GE231.out) hb); clear HO_6; clear BK231; clear HB; have HO_6 := n0_; have HO234 := n1_; have BK231 := n2_; have HB := n3_; clear n0_ n1_ n2_ n3_; (try clear hb); (try clear hb2); (try clear hk); (try clear hi); (try clear ho0); obtain ⟨Ao31, co31, eo31⟩ := Kd.R_slice HO234.out; subst eo31) | (go_at_call 26; (with_reducible refine (impl_leastLinked.calls a0 _ _ t232 t235 _ ?side1 ?side2 A12.out).mono ?_); (case side1 => exact qq12 HO234.out); (case side2 => exact qq52 HO234.out); rintro e w32 ⟨v236, rfl, ho0, hb⟩; have n0_ := Aside0.mk (Kd.R_elder' (qq2 HO_6.out) (Kd.R_base ho0) hb); have n1_ := Aside0.mk (Kd.R_below (qq2 HO234.out) hb); have n2_ := Aside0.mk (Kd.R_lower (Kd.R_new' ho0 (Kd.R_lt (qq2 HO_6.out))) (below_size (qq4 HB.out GE231.out))); have n3_ := Aside0.mk (bbl_ BK231.out hb); have n4_ := Aside0.mk (below_step (qq4 HB.out GE231.out) hb); clear HO_6; clear HO234; clear BK231; clear HB; have HO_6 := n0_; have HO234 := n1_; have HO237 := n2_; have BK231 := n3_; have HB := n4_; clear n0_ n1_ n2_ n3_ n4_; (try clear hb); (try clear hb2); (try clear hk); (try clear hi); (try clear ho0); have hcz33_0 : w32.cell? ⟨gb231, 0, none⟩ = some (.int .i64 ((rd_T32 l1 x18_1).f0)) := (blk_cell BK231.out 0).trans rfl; have hcz33_1 : w32.cell? ⟨gb231, 1, none⟩ = some (.int .i64 ((rd_T32 l1 x18_1).f1)) := (blk_cell BK231.out 1).trans rfl; have hcz33_2 : w32.cell? ⟨gb231, 2, none⟩ = some (.int .i64 ((rd_T32 l1 x18_1).f2)) := (blk_cell BK231.out 2).trans rfl; have hcz33_3 : w32.cell? ⟨gb231, 3, none⟩ = some (.int .i64 ((rd_T32 l1 x18_1).f3)) := (blk_cell BK231.out 3).trans rfl; have hfz33_0 := blk_frozen BK231.out 0; have hfz33_1 := blk_frozen BK231.out 1; have hfz33_2 := blk_frozen BK231.out 2; have hfz33_3 := blk_frozen BK231.out 3; obtain ⟨Ao34, co34, eo34⟩ := Kd.R_slice HO237.out; subst eo34; have p238 : 0 ≤ (((rd_T32 l1 x18_1).f0) : Int) := of_decide_eq_true qq3; have q238 : ((rd_T32 l1 x18_1).f0) < (t235.length : Int) := of_decide_eq_true qq3; obtain ⟨ad238, e238, hx238_0⟩ := Kd.at_int (Kd.R_reads' HO237.out).2.2 ((rd_T32 l1 x18_1).f0) p238 q238; cases e238; replace p238 := eq_true p238; replace q238 := eq_true q238; have p239 : 0 ≤ (((rd_T32 l1 x18_1).f1) : Int) := of_decide_eq_true qq3; have q239 : ((rd_T32 l1 x18_1).f1) < (t235.length : Int) := of_decide_eq_true qq3; obtain ⟨ad239, e239, hx239_0⟩ := Kd.at_int (Kd.R_reads' HO237.out).2.2 ((rd_T32 l1 x18_1).f1) p239 q239; obtain rfl : ad238 = ad239 := (by injection e239); replace p239 := eq_true p239; replace q239 := eq_true q239) | ((with_reducible refine gate_builtin (b := .append) (xs := #[.tmp 39, .tmp 41]) rfl ?_); at_builtin; refine Kd.R_append (Kd.int .i64) (w0 := w) w.heap.size rfl (.tmp 39) (.tmp 41) 27 3 (.int .i64 0) 8 rfl Try.underlying27 info3 rfl (by decide) (by omega) (.slice Ao29 x6_1.length co29) x6_1 x18_1 [.int .i64 x18_1] (fun k_ => some k_ ≠ (.slice (some ad238) t235.length co34 : Value).ownBlock) (fun _ => False) rfl rfl ?aP (fun _ hk => hk.elim) ?aF ?aO ?aB ?aS ?aL ?_; (case aP => exact rfl); (case aB => exact (qq4 HB.out GE231.out)); (case aF => exact qq55 HO237.out); (case aO => exact (qq32 HO_6.out)); (case aS => exact (below_size (qq4 HB.out GE231.out))); (case aL => have := LMc26.out; omega); intro v241 w35 ho hb hg hat; rw [← Ny240.out] at ho; have n0_ := Aside0.mk (blk_grown (g := gb231) (o := .cells #[.int .i64 ((rd_T32 l1 x18_1).f0), .int .i64 ((rd_T32 l1 x18_1).f1), .int .i64 ((rd_T32 l1 x18_1).f2), .int .i64 ((rd_T32 l1 x18_1).f3)] 32 (0, 0)) (qq23 BK231.out) hg (Kd.R_ne HO_6.out BK231.out (by decide))); have n1_ := Aside0.mk (Kd.R_over' (qq2 HO234.out) (Kd.R_typed (qq2 HO_6.out)) (by decide) hg); have n2_ := Aside0.mk (Kd.R_after (ok := (fun _ => True)) (qq2 HO237.out) hg hat); have n3_ := Aside0.mk (hb); have n4_ := Aside0.mk (ho); clear BK231; clear HO234; clear HO237; clear HB; clear HO_6; have BK231 := n0_; have HO234 := n1_; have HO237 := n2_; have HB := n3_; have HO242 := n4_; clear n0_ n1_ n2_ n3_ n4_; clear ho hb hg hat)); try go_wp2_with (first | ((with_reducible refine gate_dst (N := 8) rfl ?_); refine box_event ?hg (N := 8) ?hd (cs := #[.int .i64 0, .int .i64 0, .int .i64 0, .int .i64 0]) (t := 32) ?hr ?_; (case hd => rfl); (case hg => rfl); (case hr => exact qq16); intro gb231 hg w27 hbox hb; have n0_ := Aside0.mk (Kd.R_below (qq2 HO_6.out) hb); have n1_ := Aside0.mk (below_step qq1 hb); have n2_ := Aside0.mk (hbox); have n3_ := Aside0.mk ((qq34 : w.heap.size ≤ gb231)); have n4_ := Aside0.mk ((qq34 : w.heap.size ≤ gb231)); clear HO_6; clear HB; have HO_6 := n0_; have HB := n1_; have BK231 := n2_; have GW231 := n3_; have GE231 := n4_; clear n0_ n1_ n2_ n3_ n4_; clear hb hbox hg; have hcz28_0 : w27.cell? ⟨gb231, 0, none⟩ = some (.int .i64 0) := (blk_cell BK231.out 0).trans rfl; have hcz28_1 : w27.cell? ⟨gb231, 1, none⟩ = some (.int .i64 0) := (blk_cell BK231.out 1).trans rfl; have hcz28_2 : w27.cell? ⟨gb231, 2, none⟩ = some (.int .i64 0) := (blk_cell BK231.out 2).trans rfl; have hcz28_3 : w27.cell? ⟨gb231, 3, none⟩ = some (.int .i64 0) := (blk_cell BK231.out 3).trans rfl; have hfz28_0 := blk_frozen BK231.out 0; have hfz28_1 := blk_frozen BK231.out 1; have hfz28_2 := blk_frozen BK231.out 2; have hfz28_3 := blk_frozen BK231.out 3; obtain ⟨Ao29, co29, eo29⟩ := Kd.R_slice HO_6.out; subst eo29) | (go_at_call 27; (with_reducible refine (impl_pick.calls k1 _ _ l1 _ _ x6_1 t232 _ ?side1 ?side2 ?side3 ?side4 A11.out).mono ?_); (case side1 => exact qq67); (case side2 => exact HC1.out); (case side3 => exact qq61); (case side4 => exact qq52 HO_6.out); rintro e w30 ⟨v233, rfl, ho0, hb⟩; have n0_ := Aside0.mk (Kd.R_below qq13 hb); have n1_ := Aside0.mk (Kd.R_lower (Kd.R_newB ho0 (g := gb231) (o := .cells #[.int .i64 ((rd_T32 l1 x18_1).f0), .int .i64 ((rd_T32 l1 x18_1).f1), .int .i64 ((rd_T32 l1 x18_1).f2), .int .i64 ((rd_T32 l1 x18_1).f3)] 32 (0, 0)) qq7) (below_size (qq4 HB.out GE231.out))); have n2_ := Aside0.mk (blk_below (g := gb231) (o := .cells #[.int .i64 ((rd_T32 l1 x18_1).f0), .int .i64 ((rd_T32 l1 x18_1).f1), .int .i64 ((rd_T32 l1 x18_1).f2), .int .i64 ((rd_T32 l1 x18_1).f3)] 32 (0, 0)) qq7 hb); have n3_ := Aside0.mk (below_step (qq4 HB.out GE231.out) hb); clear HO_6; clear BK231; clear HB; have HO_6 := n0_; have HO234 := n1_; have BK231 := n2_; have HB := n3_; clear n0_ n1_ n2_ n3_; (try clear hb); (try clear hb2); (try clear hk); (try clear hi); (try clear ho0); obtain ⟨Ao31, co31, eo31⟩ := Kd.R_slice HO234.out; subst eo31) | (go_at_call 26; (with_reducible refine (impl_leastLinked.calls a0 _ _ t232 t235 _ ?side1 ?side2 A12.out).mono ?_); (case side1 => exact qq12 HO234.out); (case side2 => exact qq52 HO234.out); rintro e w32 ⟨v236, rfl, ho0, hb⟩; have n0_ := Aside0.mk (Kd.R_elder' (qq2 HO_6.out) (Kd.R_base ho0) hb); have n1_ := Aside0.mk (Kd.R_below (qq2 HO234.out) hb); have n2_ := Aside0.mk (Kd.R_lower (Kd.R_new' ho0 (Kd.R_lt (qq2 HO_6.out))) (below_size (qq4 HB.out GE231.out))); have n3_ := Aside0.mk (bbl_ BK231.out hb); have n4_ := Aside0.mk (below_step (qq4 HB.out GE231.out) hb); clear HO_6; clear HO234; clear BK231; clear HB; have HO_6 := n0_; have HO234 := n1_; have HO237 := n2_; have BK231 := n3_; have HB := n4_; clear n0_ n1_ n2_ n3_ n4_; (try clear hb); (try clear hb2); (try clear hk); (try clear hi); (try clear ho0); have hcz33_0 : w32.cell? ⟨gb231, 0, none⟩ = some (.int .i64 ((rd_T32 l1 x18_1).f0)) := (blk_cell BK231.out 0).trans rfl; have hcz33_1 : w32.cell? ⟨gb231, 1, none⟩ = some (.int .i64 ((rd_T32 l1 x18_1).f1)) := (blk_cell BK231.out 1).trans rfl; have hcz33_2 : w32.cell? ⟨gb231, 2, none⟩ = some (.int .i64 ((rd_T32 l1 x18_1).f2)) := (blk_cell BK231.out 2).trans rfl; have hcz33_3 : w32.cell? ⟨gb231, 3, none⟩ = some (.int .i64 ((rd_T32 l1 x18_1).f3)) := (blk_cell BK231.out 3).trans rfl; have hfz33_0 := blk_frozen BK231.out 0; have hfz33_1 := blk_frozen BK231.out 1; have hfz33_2 := blk_frozen BK231.out 2; have hfz33_3 := blk_frozen BK231.out 3; obtain ⟨Ao34, co34, eo34⟩ := Kd.R_slice HO237.out; subst eo34; have p238 : 0 ≤ (((rd_T32 l1 x18_1).f0) : Int) := of_decide_eq_true qq3; have q238 : ((rd_T32 l1 x18_1).f0) < (t235.length : Int) := of_decide_eq_true qq3; obtain ⟨ad238, e238, hx238_0⟩ := Kd.at_int (Kd.R_reads' HO237.out).2.2 ((rd_T32 l1 x18_1).f0) p238 q238; cases e238; replace p238 := eq_true p238; replace q238 := eq_true q238; have p239 : 0 ≤ (((rd_T32 l1 x18_1).f1) : Int) := of_decide_eq_true qq3; have q239 : ((rd_T32 l1 x18_1).f1) < (t235.length : Int) := of_decide_eq_true qq3; obtain ⟨ad239, e239, hx239_0⟩ := Kd.at_int (Kd.R_reads' HO237.out).2.2 ((rd_T32 l1 x18_1).f1) p239 q239; obtain rfl : ad238 = ad239 := (by injection e239); replace p239 := eq_true p239; replace q239 := eq_true q239) | ((with_reducible refine gate_builtin (b := .append) (xs := #[.tmp 39, .tmp 41]) rfl ?_); at_builtin; refine Kd.R_append (Kd.int .i64) (w0 := w) w.heap.size rfl (.tmp 39) (.tmp 41) 27 3 (.int .i64 0) 8 rfl Try.underlying27 info3 rfl (by decide) (by omega) (.slice Ao29 x6_1.length co29) x6_1 x18_1 [.int .i64 x18_1] (fun k_ => some k_ ≠ (.slice (some ad238) t235.length co34 : Value).ownBlock) (fun _ => False) rfl rfl ?aP (fun _ hk => hk.elim) ?aF ?aO ?aB ?aS ?aL ?_; (case aP => exact rfl); (case aB => exact (qq4 HB.out GE231.out)); (case aF => exact qq55 HO237.out); (case aO => exact (qq32 HO_6.out)); (case aS => exact (below_size (qq4 HB.out GE231.out))); (case aL => have := LMc26.out; omega); intro v241 w35 ho hb hg hat; rw [← Ny240.out] at ho; have n0_ := Aside0.mk (blk_grown (g := gb231) (o := .cells #[.int .i64 ((rd_T32 l1 x18_1).f0), .int .i64 ((rd_T32 l1 x18_1).f1), .int .i64 ((rd_T32 l1 x18_1).f2), .int .i64 ((rd_T32 l1 x18_1).f3)] 32 (0, 0)) (qq23 BK231.out) hg (Kd.R_ne HO_6.out BK231.out (by decide))); have n1_ := Aside0.mk (Kd.R_over' (qq2 HO234.out) (Kd.R_typed (qq2 HO_6.out)) (by decide) hg); have n2_ := Aside0.mk (Kd.R_after (ok := (fun _ => True)) (qq2 HO237.out) hg hat); have n3_ := Aside0.mk (hb); have n4_ := Aside0.mk (ho); clear BK231; clear HO234; clear HO237; clear HB; clear HO_6; have BK231 := n0_; have HO234 := n1_; have HO237 := n2_; have HB := n3_; have HO242 := n4_; clear n0_ n1_ n2_ n3_ n4_; clear ho hb hg hat)))
                          go_roundg k1
                          case measure => have := HK1.out; omega
                          case rel => exact ⟨(y240), (wrap64 (x18_1 + 1)), qq14, H', ⟨by have := HK1.out; omega⟩, ⟨qq17 HO242.out⟩, ⟨qq4 HB.out GE231.out⟩⟩
                        · rw [if_neg c26] at H
                          exact absurd H (by simp)
                    · rw [if_neg c16] at H
                      exact absurd H (by simp)
                  · rw [if_neg c15] at H
                    exact absurd H (by simp)
                · rw [if_neg c14] at H
                  exact absurd H (by simp)
              · rw [if_neg c13] at H
                exact absurd H (by simp)
            · rw [if_neg c10] at H
              exact absurd H (by simp)
          · rw [if_neg c9] at H
            exact absurd H (by simp)
        · rw [if_neg c8] at H
          have c8b0 : decide (x18_1 < (l1.length : Int)) = false := decide_eq_false c8
          clear c8
          simp only [Option.some.injEq, Prod.mk.injEq] at H
          obtain ⟨rfl, rfl⟩ := H
          go_wp2
          repeat (go_quiet (fail); try go_wp2)
          go_ret2
          exact ⟨_, qq11, qq2 HO_6.out, qq1⟩
  · replace c4 := Bool.eq_false_iff.mpr c4
    subst c4
    have H1 : (some ((([] : List Int)), false)) = some (r1, r2) := by rw [if_neg (show ¬ (false = true) by decide)] at H; exact H
    clear H
    have H := H1
    clear H1
    obtain ⟨y224, hy224⟩ : ∃ y_ : List Int, y_ = (([] : List Int)) := ⟨_, rfl⟩
    replace H : (some (y224, false)) = some (r1, r2) := by first | (rw [hy224]; with_reducible exact H) | (have H2_ := (Option.bind_some _ _).symm.trans H; rw [hy224]; with_reducible exact H2_) | (have H2_ := (Option.bind_some _ _).symm.trans H; with_reducible exact H2_) | with_reducible exact H | (rw [hy224]; exact H) | exact H
    have Ny224 := Aside0.mk hy224
    clear hy224
    simp only [Option.some.injEq, Prod.mk.injEq] at H
    obtain ⟨rfl, rfl⟩ := H
    go_enter Try.func10, Try.ntmps10
    go_wp2_with (first | (go_at_call 13; (with_reducible refine (impl_NetWhole.calls k a0 _ _ l1 false _ ?side1 ?side2 A3.out).mono ?_); (case side1 => exact qq15 HR1.out); (case side2 => exact HC1.out); rintro e w36 ⟨rfl, hb⟩; have n0_ := Aside0.mk (below_step qq1 hb); clear HB; have HB := n0_; clear n0_; (try clear hb); (try clear hb2); (try clear hk); (try clear hi)) | ((with_reducible refine gate_dst (N := 14) rfl ?_); refine Kd.R_lit (Kd.int .i64) _ 3 ?hg (N := 14) ?hd (xs := ([] : List Int)) (inner := []) (ok := fun _ => True) (okp := fun _ => True) ?hr ?hp (fun _ hk => hk) trivial (Below.refl _ _) (Nat.le_refl _) (by simp) ?_; (case hd => rfl); (case hg => rfl); (case hr => exact qq16); (case hp => exact (Reps.none _ _)); intro v225 w37 ho38 hb hg_ hnew_; clear hg_ hnew_; (first | rw [← Ny224.out] at ho38 | (simp only [Int.reduceToNat] at ho38; rw [← Ny224.out] at ho38)); have n0_ := Aside0.mk (Kd.R_lower ho38 (below_size qq1)); have n1_ := Aside0.mk (below_step qq1 hb); clear HB; have HO226 := n0_; have HB := n1_; clear n0_ n1_; clear hb ho38))
    repeat (go_quiet (first | (go_at_call 13; (with_reducible refine (impl_NetWhole.calls k a0 _ _ l1 false _ ?side1 ?side2 A3.out).mono ?_); (case side1 => exact qq15 HR1.out); (case side2 => exact HC1.out); rintro e w36 ⟨rfl, hb⟩; have n0_ := Aside0.mk (below_step qq1 hb); clear HB; have HB := n0_; clear n0_; (try clear hb); (try clear hb2); (try clear hk); (try clear hi)) | ((with_reducible refine gate_dst (N := 14) rfl ?_); refine Kd.R_lit (Kd.int .i64) _ 3 ?hg (N := 14) ?hd (xs := ([] : List Int)) (inner := []) (ok := fun _ => True) (okp := fun _ => True) ?hr ?hp (fun _ hk => hk) trivial (Below.refl _ _) (Nat.le_refl _) (by simp) ?_; (case hd => rfl); (case hg => rfl); (case hr => exact qq16); (case hp => exact (Reps.none _ _)); intro v225 w37 ho38 hb hg_ hnew_; clear hg_ hnew_; (first | rw [← Ny224.out] at ho38 | (simp only [Int.reduceToNat] at ho38; rw [← Ny224.out] at ho38)); have n0_ := Aside0.mk (Kd.R_lower ho38 (below_size qq1)); have n1_ := Aside0.mk (below_step qq1 hb); clear HB; have HO226 := n0_; have HB := n1_; clear n0_ n1_; clear hb ho38)); try go_wp2_with (first | (go_at_call 13; (with_reducible refine (impl_NetWhole.calls k a0 _ _ l1 false _ ?side1 ?side2 A3.out).mono ?_); (case side1 => exact qq15 HR1.out); (case side2 => exact HC1.out); rintro e w36 ⟨rfl, hb⟩; have n0_ := Aside0.mk (below_step qq1 hb); clear HB; have HB := n0_; clear n0_; (try clear hb); (try clear hb2); (try clear hk); (try clear hi)) | ((with_reducible refine gate_dst (N := 14) rfl ?_); refine Kd.R_lit (Kd.int .i64) _ 3 ?hg (N := 14) ?hd (xs := ([] : List Int)) (inner := []) (ok := fun _ => True) (okp := fun _ => True) ?hr ?hp (fun _ hk => hk) trivial (Below.refl _ _) (Nat.le_refl _) (by simp) ?_; (case hd => rfl); (case hg => rfl); (case hr => exact qq16); (case hp => exact (Reps.none _ _)); intro v225 w37 ho38 hb hg_ hnew_; clear hg_ hnew_; (first | rw [← Ny224.out] at ho38 | (simp only [Int.reduceToNat] at ho38; rw [← Ny224.out] at ho38)); have n0_ := Aside0.mk (Kd.R_lower ho38 (below_size qq1)); have n1_ := Aside0.mk (below_step qq1 hb); clear HB; have HO226 := n0_; have HB := n1_; clear n0_ n1_; clear hb ho38)))
    go_ret2
    exact ⟨_, qq11, qq2 HO226.out, qq1⟩

end Go.Proofs.Ytmcfhmflncghiaa.Q
