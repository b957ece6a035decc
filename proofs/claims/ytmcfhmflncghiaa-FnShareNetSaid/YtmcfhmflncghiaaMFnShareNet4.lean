/- Part 4 of what the proof of this law rests on: the functions of the translation as plain Lean functions with their walks, and the plain laws behind. -/
import Derived.Test.YtmcfhmflncghiaaMFnShareNet3
namespace Go.Proofs.Ytmcfhmflncghiaa.Q
open Go.RowKit Go.Proofs.YtmcfhmflncghiaaW.PrintWords Go.Proofs.YtmcfhmflncghiaaW.PrintLast Go.Proofs.YtmcfhmflncghiaaW.PrintMore
attribute [local go_sem] max2_int min2_int max_two min_two max_three min_three max_four min_four
set_option linter.unusedVariables false
set_option linter.unusedSimpArgs false

/-! ### impl_TreeHeights: function 11 -/
mutual
def impl_TreeHeights.l0 : Nat → List (S32) → List Int → List Int → List Bool → Int → Int → Option (List Int × Bool)
  | 0, _, _, _, _, _, _ => none
  | k + 1, x1, x2, x8, x9, x25, x26 => if x26 < x25 then ((impl_pick.f k x1 x2).bind fun t460 => (impl_TreeHeights.l1 k x1 x2 x8 x9 x25 x26 t460 (t460.length : Int) 0)) else (some (x8, true))
def impl_TreeHeights.l1 : Nat → List (S32) → List Int → List Int → List Bool → Int → Int → List (S32) → Int → Int → Option (List Int × Bool)
  | 0, _, _, _, _, _, _, _, _, _ => none
  | k + 1, x1, x2, x8, x9, x25, x26, x30, x31, x32 => if x32 < x31 then (if 0 ≤ x32 then (if x32 < (x30.length : Int) then (if 0 ≤ ((rd_T32 x30 x32).f0) then (if ((rd_T32 x30 x32).f0) < (x9.length : Int) then (if rdOf false x9 ((rd_T32 x30 x32).f0) = true then (if 0 ≤ ((rd_T32 x30 x32).f1) then (if ((rd_T32 x30 x32).f1) < (x9.length : Int) then (impl_TreeHeights.j2 k x1 x2 x8 x9 x25 x26 x30 x31 x32 (!(rdOf false x9 ((rd_T32 x30 x32).f1))) ((rd_T32 x30 x32).f0) ((rd_T32 x30 x32).f1) ((rd_T32 x30 x32).f2) ((rd_T32 x30 x32).f3)) else (none)) else (none)) else (impl_TreeHeights.j2 k x1 x2 x8 x9 x25 x26 x30 x31 x32 false ((rd_T32 x30 x32).f0) ((rd_T32 x30 x32).f1) ((rd_T32 x30 x32).f2) ((rd_T32 x30 x32).f3))) else (none)) else (none)) else (none)) else (none)) else (impl_TreeHeights.l0 k x1 x2 x8 x9 x25 (wrap64 (x26 + 1)))
def impl_TreeHeights.j2 : Nat → List (S32) → List Int → List Int → List Bool → Int → Int → List (S32) → Int → Int → Bool → Int → Int → Int → Int → Option (List Int × Bool)
  | 0, _, _, _, _, _, _, _, _, _, _, _, _, _, _ => none
  | k + 1, x1, x2, x8, x9, x25, x26, x30, x31, x32, x36, x465000, x465001, x465002, x465003 => if x36 = true then (if 0 ≤ x465000 then (if x465000 < (x8.length : Int) then (if 0 ≤ x465001 then (if x465001 < (x8.length : Int) then (if x465001 < (x9.length : Int) then (impl_TreeHeights.l1 k x1 x2 (x8.set (x465001 : Int).toNat (wrap64 ((rd x8 x465000) + x465002))) (x9.set (x465001 : Int).toNat true) x25 x26 x30 x31 (wrap64 (x32 + 1))) else (none)) else (none)) else (none)) else (none)) else (none)) else (if 0 ≤ x465001 then (if x465001 < (x9.length : Int) then (if rdOf false x9 x465001 = true then (if 0 ≤ x465000 then (if x465000 < (x9.length : Int) then (if rdOf false x9 x465000 = true then (impl_TreeHeights.l1 k x1 x2 x8 x9 x25 x26 x30 x31 (wrap64 (x32 + 1))) else (if x465001 < (x8.length : Int) then (if x465000 < (x8.length : Int) then (impl_TreeHeights.l1 k x1 x2 (x8.set (x465000 : Int).toNat (wrap64 ((rd x8 x465001) - x465002))) (x9.set (x465000 : Int).toNat true) x25 x26 x30 x31 (wrap64 (x32 + 1))) else (none)) else (none))) else (none)) else (none)) else (impl_TreeHeights.l1 k x1 x2 x8 x9 x25 x26 x30 x31 (wrap64 (x32 + 1)))) else (none)) else (none))
end
def impl_TreeHeights.f (k : Nat) (a0 : Int) (l1 : List (S32)) (l2 : List Int) : Option (List Int × Bool) := (impl_TreeIs.f k a0 l1 l2).bind fun t449 => (if t449 = true then (if 0 ≤ a0 then (if (a0 : Int).toNat ≤ 35184372088832 then (if (a0 : Int).toNat ≤ 281474976710656 then ((some (List.replicate (a0 : Int).toNat false : List Bool)).bind fun y456 => (if 0 < (y456.length : Int) then (impl_TreeHeights.l0 k l1 l2 (List.replicate (a0 : Int).toNat 0) (y456.set (0 : Int).toNat true) (l2.length : Int) 0) else (none))) else (none)) else (none)) else (none)) else (some ((([] : List Int)), false)))
def impl_TreeHeights.T12 : Bool × List (List Nat × List Nat) := (true, [([], []), ([], []), ([1], [1]), ([], []), ([], []), ([4], [4]), ([3, 5], [3, 5]), ([6], [6]), ([], []), ([8], [8]), ([7, 9], [7, 9]), ([0, 2, 0, 1, 2, 3, 4, 5, 6, 7, 8, 9, 10], [0, 2]), ([11, 10, 0, 1, 2, 3, 4, 5, 6, 7, 8, 9, 10], [10, 11])])
def impl_TreeHeights.B12 : List Nat := [0, 0, 2, 0, 0, 16, 56, 120, 0, 256, 1016, 2047, 4095]
theorem impl_TreeHeights.tab12 : rtab .any (opsOf Try.f11 12) = impl_TreeHeights.T12 := by kernel_rfl
theorem impl_TreeHeights.bits12 : waitsOk impl_TreeHeights.T12.2 impl_TreeHeights.B12 = true := by kernel_rfl
def impl_TreeHeights.T15 : Bool × List (List Nat × List Nat) := (true, [([], []), ([], []), ([1], [1]), ([], []), ([], []), ([4], [4]), ([3, 5], [3, 5]), ([6], [6]), ([], []), ([8], [8]), ([7, 9], [7, 9]), ([0, 2, 0, 1, 2, 3, 4, 5, 6, 7, 8, 9, 10], [0, 2]), ([11, 10, 0, 1, 2, 3, 4, 5, 6, 7, 8, 9, 10], [10, 11])])
def impl_TreeHeights.B15 : List Nat := [0, 0, 2, 0, 0, 16, 56, 120, 0, 256, 1016, 2047, 4095]
theorem impl_TreeHeights.tab15 : rtab .any (opsOf Try.f11 15) = impl_TreeHeights.T15 := by kernel_rfl
theorem impl_TreeHeights.bits15 : waitsOk impl_TreeHeights.T15.2 impl_TreeHeights.B15 = true := by kernel_rfl
set_option maxHeartbeats 8000000 in
set_option maxRecDepth 100000 in
theorem impl_TreeHeights.calls (k : Nat) (a0 : Int) (A1 : Option Addr) (c1 : Nat) (l1 : List (S32)) (A2 : Option Addr) (c2 : Nat) (l2 : List Int) (r1 : List Int) (r2 : Bool) (w : World) (hr1 : Kd.C k32 w A1 l1.length l1) (hc1 : l1.length ≤ c1) (hr2 : Kd.C (Kd.int .i64) w A2 l2.length l2) (hc2 : l2.length ≤ c2) (h : impl_TreeHeights.f k a0 l1 l2 = some (r1, r2)) :
    Calls Try.prog 11 #[.int .i64 a0, .slice A1 l1.length c1, .slice A2 l2.length c2] w fun e w' => ∃ v0_ : Value, e = .returned (.tuple #[v0_, .bool r2]) ∧ Kd.R (Kd.int .i64) 3 w' w.heap.size (fun _ => True) v0_ r1 ∧ Below w.heap.size w w' := by
  have hu32 := Try.underlying32
  have HR1 := Aside0.mk hr1
  have HC1 := Aside0.mk hc1
  clear hr1 hc1
  have HR2 := Aside0.mk hr2
  have HC2 := Aside0.mk hc2
  clear hr2 hc2
  have HB := Aside0.mk (Below.refl w.heap.size w)
  have H : ((impl_TreeIs.f k a0 l1 l2).bind fun t449 => (if t449 = true then (if 0 ≤ a0 then (if (a0 : Int).toNat ≤ 35184372088832 then (if (a0 : Int).toNat ≤ 281474976710656 then ((some (List.replicate (a0 : Int).toNat false : List Bool)).bind fun y456 => (if 0 < (y456.length : Int) then (impl_TreeHeights.l0 k l1 l2 (List.replicate (a0 : Int).toNat 0) (y456.set (0 : Int).toNat true) (l2.length : Int) 0) else (none))) else (none)) else (none)) else (none)) else (some ((([] : List Int)), false)))) = some (r1, r2) := h
  clear h
  replace H := Option.bind_eq_some_iff.mp H
  obtain ⟨t449, A40, H⟩ := H
  replace H : (if t449 = true then (if 0 ≤ a0 then (if (a0 : Int).toNat ≤ 35184372088832 then (if (a0 : Int).toNat ≤ 281474976710656 then ((some (List.replicate (a0 : Int).toNat false : List Bool)).bind fun y456 => (if 0 < (y456.length : Int) then (impl_TreeHeights.l0 k l1 l2 (List.replicate (a0 : Int).toNat 0) (y456.set (0 : Int).toNat true) (l2.length : Int) 0) else (none))) else (none)) else (none)) else (none)) else (some ((([] : List Int)), false))) = some (r1, r2) := H
  have A4 := Aside0.mk A40
  clear A40
  by_cases c5 : t449 = true
  · subst c5
    have H1 : (if 0 ≤ a0 then (if (a0 : Int).toNat ≤ 35184372088832 then (if (a0 : Int).toNat ≤ 281474976710656 then ((some (List.replicate (a0 : Int).toNat false : List Bool)).bind fun y456 => (if 0 < (y456.length : Int) then (impl_TreeHeights.l0 k l1 l2 (List.replicate (a0 : Int).toNat 0) (y456.set (0 : Int).toNat true) (l2.length : Int) 0) else (none))) else (none)) else (none)) else (none)) = some (r1, r2) := by rw [if_pos rfl] at H; exact H
    clear H
    have H := H1
    clear H1
    by_cases c6 : 0 ≤ a0
    · rw [if_pos c6] at H
      have c6b0 := eq_true c6
      have c6b1 : decide (0 ≤ a0) = true := decide_eq_true c6
      clear c6
      by_cases c7 : (a0 : Int).toNat ≤ 35184372088832
      · rw [if_pos c7] at H
        have c7b0 := eq_true c7
        have c7b1 : decide ((a0 : Int).toNat ≤ 35184372088832) = true := decide_eq_true c7
        clear c7
        obtain ⟨y453, hy453⟩ : ∃ y_ : List Int, y_ = (List.replicate (a0 : Int).toNat 0) := ⟨_, rfl⟩
        replace H : (if (a0 : Int).toNat ≤ 281474976710656 then ((some (List.replicate (a0 : Int).toNat false : List Bool)).bind fun y456 => (if 0 < (y456.length : Int) then (impl_TreeHeights.l0 k l1 l2 y453 (y456.set (0 : Int).toNat true) (l2.length : Int) 0) else (none))) else (none)) = some (r1, r2) := by first | (rw [hy453]; with_reducible exact H) | (have H2_ := (Option.bind_some _ _).symm.trans H; rw [hy453]; with_reducible exact H2_) | (have H2_ := (Option.bind_some _ _).symm.trans H; with_reducible exact H2_) | with_reducible exact H | (rw [hy453]; exact H) | exact H
        have Ny453 := Aside0.mk hy453
        clear hy453
        by_cases c8 : (a0 : Int).toNat ≤ 281474976710656
        · rw [if_pos c8] at H
          have c8b0 := eq_true c8
          have c8b1 : decide ((a0 : Int).toNat ≤ 281474976710656) = true := decide_eq_true c8
          clear c8
          obtain ⟨y456, hy456⟩ : ∃ y_ : List Bool, y_ = (List.replicate (a0 : Int).toNat false) := ⟨_, rfl⟩
          replace H : (if 0 < (y456.length : Int) then (impl_TreeHeights.l0 k l1 l2 y453 (y456.set (0 : Int).toNat true) (l2.length : Int) 0) else (none)) = some (r1, r2) := by first | (rw [hy456]; with_reducible exact H) | (have H2_ := (Option.bind_some _ _).symm.trans H; rw [hy456]; with_reducible exact H2_) | (have H2_ := (Option.bind_some _ _).symm.trans H; with_reducible exact H2_) | with_reducible exact H | (rw [hy456]; exact H) | exact H
          have Ny456 := Aside0.mk hy456
          clear hy456
          by_cases c9 : 0 < (y456.length : Int)
          · rw [if_pos c9] at H
            have c9b0 : decide (0 < (y456.length : Int)) = true := decide_eq_true c9
            have c9b1 : decide (0 < y456.length) = true := decide_eq_true (by omega)
            clear c9
            obtain ⟨y459, hy459⟩ : ∃ y_ : List Bool, y_ = (y456.set (0 : Int).toNat true) := ⟨_, rfl⟩
            replace H : (impl_TreeHeights.l0 k l1 l2 y453 y459 (l2.length : Int) 0) = some (r1, r2) := by first | (rw [hy459]; with_reducible exact H) | (have H2_ := (Option.bind_some _ _).symm.trans H; rw [hy459]; with_reducible exact H2_) | (have H2_ := (Option.bind_some _ _).symm.trans H; with_reducible exact H2_) | with_reducible exact H | (rw [hy459]; exact H) | exact H
            have Ny459 := Aside0.mk hy459
            clear hy459
            have H' := Aside0.mk H
            clear H
            go_enter Try.func11, Try.ntmps11
            go_wp2_with (first | ((with_reducible refine gate_callee (f := 28) rfl ?_); refine goesL_ (some 15) rfl rfl Try.func28 (by kernel_rfl) rfl #[.int .i64 a0, .slice A1 l1.length c1, .slice A2 l2.length c2] rfl qq5 ?_; (with_reducible refine (impl_TreeIs.calls k a0 _ _ l1 _ _ l2 true _ ?side1 ?side2 ?side3 ?side4 A4.out).mono ?_); (case side1 => exact qq15 HR1.out); (case side2 => exact HC1.out); (case side3 => exact qq15 HR2.out); (case side4 => exact HC2.out); rintro e w11 ⟨rfl, hb⟩; refine ⟨_, rfl, ?_⟩; have n0_ := Aside0.mk (below_step qq1 hb); clear HB; have HB := n0_; clear n0_; (try clear hb); (try clear hb2); (try clear hk); (try clear hi)) | ((with_reducible refine gate_dst (N := 19) rfl ?_); refine Kd.R_make (Kd.int .i64) _ 3 rfl (N := 19) rfl 27 _ _ rfl a0 rfl rfl Try.underlying27 (.int .i64 0) 8 info3 rfl (by decide) (by omega) 0 (ok := fun _ => True) (okp := fun _ => True) rfl (fun _ hk => hk) trivial (of_decide_eq_true qq3) (Nat.le_trans (Nat.mul_le_mul_right _ (of_decide_eq_true qq3 : a0.toNat ≤ 35184372088832)) (by omega)) (Below.refl _ _) (Nat.le_refl _) ?_; intro v454 w12 ho13 hb hg_ hnew_; clear hg_ hnew_; (first | rw [← Ny453.out] at ho13 | (simp only [Int.reduceToNat] at ho13; rw [← Ny453.out] at ho13)); have n0_ := Aside0.mk (Kd.R_lower ho13 (below_size qq1)); have n1_ := Aside0.mk (below_step qq1 hb); clear HB; have HO455 := n0_; have HB := n1_; clear n0_ n1_; clear hb ho13) | ((with_reducible refine gate_dst (N := 21) rfl ?_); refine Kd.R_make Kd.bool _ 4 rfl (N := 21) rfl 47 _ _ rfl a0 rfl rfl Try.underlying47 (.bool false) 1 info4 rfl (by decide) (by omega) false (ok := fun _ => True) (okp := fun _ => True) rfl (fun _ hk => hk) trivial (of_decide_eq_true qq3) (Nat.le_trans (Nat.mul_le_mul_right _ (of_decide_eq_true qq3 : a0.toNat ≤ 281474976710656)) (by omega)) (Below.refl _ _) (Nat.le_refl _) ?_; intro v457 w14 ho15 hb hg_ hnew_; clear hg_ hnew_; (first | rw [← Ny456.out] at ho15 | (simp only [Int.reduceToNat] at ho15; rw [← Ny456.out] at ho15)); have n0_ := Aside0.mk (Kd.R_below (qq2 HO455.out) hb); have n1_ := Aside0.mk (Kd.R_lower ho15 (below_size qq1)); have n2_ := Aside0.mk (below_step qq1 hb); clear HO455; clear HB; have HO455 := n0_; have HO458 := n1_; have HB := n2_; clear n0_ n1_ n2_; clear hb ho15; have p10 : 0 ≤ (0 : Int) := (by omega); have q10 : (0 : Int) < ((y456.length : Int) : Int) := of_decide_eq_true qq3; have qi10 : (0 < y456.length) = True := eq_true (by omega); obtain ⟨go10, co10, eo10, gb10, gl10, cl10, HG10⟩ := Kd.R_form HO458.out (by omega); (first | cases eo10 | (injection eo10 with ea_ en_ ec_; (first | subst ea_ | (injection ea_ with ea_; subst ea_)); subst ec_; clear en_)); have GB10 := Aside0.mk gb10; have GG10 := Aside0.mk HG10; clear gb10 gl10 HG10; obtain ⟨hx10_0, hf10_0⟩ := Kd.R_celln false HO458.out (0 : Int) p10 q10; (try rw [show ((0 : Int)).toNat = 0 from rfl] at hx10_0); (try simp only [Nat.reduceMul, Nat.zero_mul, Nat.zero_add, Nat.reduceAdd] at hx10_0); (try rw [show ((0 : Int)).toNat = 0 from rfl] at hf10_0); (try simp only [Nat.reduceMul, Nat.zero_mul, Nat.zero_add, Nat.reduceAdd] at hf10_0); replace p10 := eq_true p10; replace q10 := eq_true q10; obtain ⟨hy16_, hz16_⟩ := Kd.R_celln false HO458.out (0 : Int) (by omega) (of_decide_eq_true qq3); (try simp only [Int.reduceToNat, Int.toNat_zero, Int.toNat_ofNat, Nat.reduceMul, Nat.zero_mul, Nat.zero_add] at hy16_ hz16_); (try rw [show ((0 : Int)).toNat = 0 from rfl] at hy16_); (try rw [show ((0 : Int)).toNat = 0 from rfl] at hz16_); have HP16 := Kd.R_putg HO458.out (0 : Int) true) | ((with_reducible refine gate_store (t := 4) (p := 23) rfl ?_); refine store_event (t := 4) (p := 23) (v := ?vo_w17) (w1 := (w14.setCell ⟨go10, (0 : Int).toNat, none⟩ (.bool true))) ?hg ?ho ?hn ?hr ?_; (case ho => rfl); (case hg => rfl); (case hn => rfl); (case hr => exact qq17); intro w17 hw; have hg : w14.grownBy w17 (some go10) := (by rw [hw]; exact HP16.2); have hp_ : Kd.R Kd.bool 4 w17 w.heap.size (fun _ => True) (.slice (some ⟨go10, 0, none⟩) y456.length co10) y459 := (by rw [hw, Ny459.out]; exact HP16.1); clear HP16; have n0_ := Aside0.mk (Kd.R_over' (v := (.slice (some ⟨go10, 0, none⟩) y456.length co10)) (qq2 HO455.out) (Kd.R_typed HO458.out) (by decide) hg); have n1_ := Aside0.mk (hp_); have n2_ := Aside0.mk ((qq74 : Below w.heap.size w w17)); clear HO455; clear HO458; clear HB; have HO455 := n0_; have HO458 := n1_; have HB := n2_; clear n0_ n1_ n2_; clear hg hw hp_))
            go_loopg [26] k (fun kq v26 w' => ∃ (x8_1 : List Int) (x9_1 : List Bool) (x26_1 : Int), v26 = .int .i64 x26_1 ∧ Aside0 (impl_TreeHeights.l0 kq l1 l2 x8_1 x9_1 (l2.length : Int) x26_1 = some (r1, r2)) ∧ Aside0 (kq ≤ k) ∧ Aside0 (Kd.R (Kd.int .i64) 3 w' w.heap.size (fun _ => True) v454 x8_1) ∧ Aside0 (Kd.R Kd.bool 4 w' w.heap.size (fun _ => True) (.slice (some ⟨go10, 0, none⟩) y456.length co10) x9_1) ∧ Aside0 (Below w.heap.size w w'))
            case atStart => exact ⟨(y453), (y459), (0), qq9, H', ⟨Nat.le_refl _⟩, ⟨qq2 HO455.out⟩, ⟨qq2 HO458.out⟩, ⟨qq1⟩⟩
            case round =>
              clear H'
              try clear c1
              try clear p1
              try clear q1
              try clear hx1
              try clear qi1
              try clear c2
              try clear p2
              try clear c5
              try clear c6
              try clear c6b0
              try clear c6b1
              try clear c7
              try clear c7b0
              try clear c7b1
              try clear c8
              try clear c8b0
              try clear c8b1
              try clear c9
              try clear c9b0
              try clear c9b1
              try clear p10
              try clear q10
              try clear hx10
              try clear qi10
              try clear hf10
              try clear c11
              try clear hx10_0
              try clear p10
              try clear q10
              obtain ⟨x8_1, x9_1, x26_1, rfl, HA, HK1, HO_8, HO_9, HB⟩ := hrel
              have hl9_1 := (Kd.R_reads' HO_9.out).1
              rw [hl9_1] at HO_9
              (try simp only [hl9_1])
              (try simp only [hl9_1] at HO_8)
              cases gk with
              | zero => exact absurd HA.out (by simp [impl_TreeHeights.l0])
              | succ k1 =>
                have H := HA.out
                clear HA
                simp only [impl_TreeHeights.l0] at H
                by_cases c18 : x26_1 < (l2.length : Int)
                · rw [if_pos c18] at H
                  have c18b0 : decide (x26_1 < (l2.length : Int)) = true := decide_eq_true c18
                  clear c18
                  replace H := Option.bind_eq_some_iff.mp H
                  obtain ⟨t460, A190, H⟩ := H
                  replace H : (impl_TreeHeights.l1 k1 l1 l2 x8_1 x9_1 (l2.length : Int) x26_1 t460 (t460.length : Int) 0) = some (r1, r2) := H
                  have A19 := Aside0.mk A190
                  clear A190
                  have H' := Aside0.mk H
                  clear H
                  go_wp2_with (first | ((with_reducible refine gate_callee (f := 27) rfl ?_); refine goesL_ (some 30) rfl rfl Try.func27 (by kernel_rfl) rfl #[.slice A1 l1.length c1, .slice A2 l2.length c2] rfl qq5 ?_; (with_reducible refine (impl_pick.calls k1 _ _ l1 _ _ l2 t460 _ ?side1 ?side2 ?side3 ?side4 A19.out).mono ?_); (case side1 => exact qq44); (case side2 => exact HC1.out); (case side3 => exact qq13 HR2.out HB.out); (case side4 => exact HC2.out); rintro e w20 ⟨v461, rfl, ho0, hb⟩; refine ⟨_, rfl, ?_⟩; have n0_ := Aside0.mk (Kd.R_below (qq2 HO_8.out) hb); have n1_ := Aside0.mk (Kd.R_below (qq2 HO_9.out) hb); have n2_ := Aside0.mk (Kd.R_lower ho0 (below_size qq1)); have n3_ := Aside0.mk (below_step qq1 hb); clear HO_8; clear HO_9; clear HB; have HO_8 := n0_; have HO_9 := n1_; have HO462 := n2_; have HB := n3_; clear n0_ n1_ n2_ n3_; (try clear hb); (try clear hb2); (try clear hk); (try clear hi); (try clear ho0); obtain ⟨Ao21, co21, eo21⟩ := Kd.R_slice HO462.out; subst eo21))
                  go_loopg [32] k1 (fun kq v32 w' => ∃ (x8_2 : List Int) (x9_2 : List Bool) (x32_2 : Int), v32 = .int .i64 x32_2 ∧ Aside0 (impl_TreeHeights.l1 kq l1 l2 x8_2 x9_2 (l2.length : Int) x26_1 t460 (t460.length : Int) x32_2 = some (r1, r2)) ∧ Aside0 (kq ≤ k1) ∧ Aside0 (Kd.R (Kd.int .i64) 3 w' w.heap.size (fun _ => True) v454 x8_2) ∧ Aside0 (Kd.R Kd.bool 4 w' w.heap.size (fun _ => True) (.slice (some ⟨go10, 0, none⟩) x9_1.length co10) x9_2) ∧ Aside0 (Kd.R k32 32 w' w.heap.size (fun _ => True) (.slice Ao21 t460.length co21) t460) ∧ Aside0 (Below w.heap.size w w'))
                  case atStart => exact ⟨(x8_1), (x9_1), (0), qq9, H', ⟨Nat.le_refl _⟩, ⟨qq54 HO_8.out⟩, ⟨qq54 HO_9.out⟩, ⟨qq54 HO462.out⟩, ⟨qq1⟩⟩
                  case round =>
                    clear H'
                    try clear c1
                    try clear p1
                    try clear q1
                    try clear hx1
                    try clear qi1
                    try clear c2
                    try clear p2
                    try clear c5
                    try clear c6
                    try clear c6b0
                    try clear c6b1
                    try clear c7
                    try clear c7b0
                    try clear c7b1
                    try clear c8
                    try clear c8b0
                    try clear c8b1
                    try clear c9
                    try clear c9b0
                    try clear c9b1
                    try clear p10
                    try clear q10
                    try clear hx10
                    try clear qi10
                    try clear hf10
                    try clear c11
                    try clear c18
                    try clear c18b0
                    try clear hx10_0
                    try clear p1
                    try clear p10
                    try clear p2
                    try clear q1
                    try clear q10
                    obtain ⟨x8_2, x9_2, x32_2, rfl, HA, HK2, HO_8, HO_9, HO_30, HB⟩ := hrel
                    have hl9_2 := (Kd.R_reads' HO_9.out).1
                    rw [hl9_2] at HO_9
                    (try simp only [hl9_2])
                    (try simp only [hl9_2] at HO_8)
                    (try simp only [hl9_2] at HO_30)
                    cases gk with
                    | zero => exact absurd HA.out (by simp [impl_TreeHeights.l1])
                    | succ k2 =>
                      have H := HA.out
                      clear HA
                      simp only [impl_TreeHeights.l1] at H
                      by_cases c22 : x32_2 < (t460.length : Int)
                      · rw [if_pos c22] at H
                        have c22b0 : decide (x32_2 < (t460.length : Int)) = true := decide_eq_true c22
                        clear c22
                        by_cases c23 : 0 ≤ x32_2
                        · rw [if_pos c23] at H
                          have c23b0 : decide (0 ≤ x32_2) = true := decide_eq_true c23
                          clear c23
                          by_cases c24 : x32_2 < (t460.length : Int)
                          · rw [if_pos c24] at H
                            have c24b0 : decide (x32_2 < (t460.length : Int)) = true := decide_eq_true c24
                            clear c24
                            have HC25 := Aside0.mk H
                            clear H
                            have p463 : 0 ≤ (x32_2 : Int) := of_decide_eq_true qq3
                            have q463 : x32_2 < (t460.length : Int) := of_decide_eq_true qq3
                            obtain ⟨ad463, e463, hx463_0, hx463_1, hx463_2, hx463_3⟩ := at_T32 (Kd.R_reads' HO_30.out).2.2 x32_2 p463 q463
                            cases e463
                            replace p463 := eq_true p463
                            replace q463 := eq_true q463
                            go_upto_region 11 with (first | ((with_reducible refine gate_dst (N := 11) rfl ?_); refine box_event ?hg (N := 11) ?hd (cs := #[.int .i64 0, .int .i64 0, .int .i64 0, .int .i64 0]) (t := 32) ?hr ?_; (case hd => rfl); (case hg => rfl); (case hr => exact qq17); intro gb464 hg w26 hbox hb; have n0_ := Aside0.mk (Kd.R_below (qq2 HO_8.out) hb); have n1_ := Aside0.mk (Kd.R_below (qq2 HO_9.out) hb); have n2_ := Aside0.mk (Kd.R_below (Kd.R_elderB (qq2 HO_30.out) gb464 (Nat.le_of_eq hg.symm)) hb); have n3_ := Aside0.mk (below_step qq1 hb); have n4_ := Aside0.mk (hbox); have n5_ := Aside0.mk ((qq36 : w.heap.size ≤ gb464)); have n6_ := Aside0.mk ((qq36 : w.heap.size ≤ gb464)); clear HO_8; clear HO_9; clear HO_30; clear HB; have HO_8 := n0_; have HO_9 := n1_; have HO_30 := n2_; have HB := n3_; have BK464 := n4_; have GW464 := n5_; have GE464 := n6_; clear n0_ n1_ n2_ n3_ n4_ n5_ n6_; clear hb hbox hg; have hcz27_0 : w26.cell? ⟨gb464, 0, none⟩ = some (.int .i64 0) := (blk_cell BK464.out 0).trans rfl; have hcz27_1 : w26.cell? ⟨gb464, 1, none⟩ = some (.int .i64 0) := (blk_cell BK464.out 1).trans rfl; have hcz27_2 : w26.cell? ⟨gb464, 2, none⟩ = some (.int .i64 0) := (blk_cell BK464.out 2).trans rfl; have hcz27_3 : w26.cell? ⟨gb464, 3, none⟩ = some (.int .i64 0) := (blk_cell BK464.out 3).trans rfl; have hfz27_0 := blk_frozen BK464.out 0; have hfz27_1 := blk_frozen BK464.out 1; have hfz27_2 := blk_frozen BK464.out 2; have hfz27_3 := blk_frozen BK464.out 3))
                            (try simp only [Act.put, List.setIfInBounds_toArray, List.set_cons_zero, List.set_cons_succ])
                            go_cut [36] (fun v36 wc => ∃ (kq : Nat) (x36_24 : Bool), v36 = .bool x36_24 ∧ Aside0 (impl_TreeHeights.j2 kq l1 l2 x8_2 x9_2 (l2.length : Int) x26_1 t460 (t460.length : Int) x32_2 x36_24 ((rd_T32 t460 x32_2).f0) ((rd_T32 t460 x32_2).f1) ((rd_T32 t460 x32_2).f2) ((rd_T32 t460 x32_2).f3) = some (r1, r2)) ∧ Aside0 (kq ≤ k2) ∧ Aside0 (Kd.R (Kd.int .i64) 3 wc w.heap.size (fun _ => True) v454 x8_2) ∧ Aside0 (Kd.R Kd.bool 4 wc w.heap.size (fun _ => True) (.slice (some ⟨go10, 0, none⟩) x9_2.length co10) x9_2) ∧ Aside0 (Kd.R k32 32 wc w.heap.size (fun k_ => k_ ≠ gb464) (.slice (some ad463) t460.length co21) t460) ∧ Aside0 (wc.heap[gb464]? = some (.cells #[.int .i64 ((rd_T32 t460 x32_2).f0), .int .i64 ((rd_T32 t460 x32_2).f1), .int .i64 ((rd_T32 t460 x32_2).f2), .int .i64 ((rd_T32 t460 x32_2).f3)] 32 (0, 0))) ∧ Aside0 (Below w.heap.size w wc))
                            case first =>
                              have H := HC25.out
                              clear HC25
                              by_cases c28 : 0 ≤ ((rd_T32 t460 x32_2).f0)
                              · rw [if_pos c28] at H
                                have c28b0 : decide (0 ≤ ((rd_T32 t460 x32_2).f0)) = true := decide_eq_true c28
                                clear c28
                                (first | rw [c28b0] | (simp only [i64_w, i32_w]; rw [c28b0]) | skip)
                                by_cases c29 : ((rd_T32 t460 x32_2).f0) < (x9_2.length : Int)
                                · rw [if_pos c29] at H
                                  have c29b0 : decide (((rd_T32 t460 x32_2).f0) < (x9_2.length : Int)) = true := decide_eq_true c29
                                  clear c29
                                  obtain ⟨bq30, hbq30⟩ : ∃ b_ : Bool, b_ = (rdOf false x9_2 ((rd_T32 t460 x32_2).f0)) := ⟨_, rfl⟩
                                  replace H : (if bq30 = true then (if 0 ≤ ((rd_T32 t460 x32_2).f1) then (if ((rd_T32 t460 x32_2).f1) < (x9_2.length : Int) then (impl_TreeHeights.j2 k2 l1 l2 x8_2 x9_2 (l2.length : Int) x26_1 t460 (t460.length : Int) x32_2 (!(rdOf false x9_2 ((rd_T32 t460 x32_2).f1))) ((rd_T32 t460 x32_2).f0) ((rd_T32 t460 x32_2).f1) ((rd_T32 t460 x32_2).f2) ((rd_T32 t460 x32_2).f3)) else (none)) else (none)) else (impl_TreeHeights.j2 k2 l1 l2 x8_2 x9_2 (l2.length : Int) x26_1 t460 (t460.length : Int) x32_2 false ((rd_T32 t460 x32_2).f0) ((rd_T32 t460 x32_2).f1) ((rd_T32 t460 x32_2).f2) ((rd_T32 t460 x32_2).f3))) = some (r1, r2) := by rw [← hbq30] at H; exact H
                                  have Nbq30 := Aside0.mk hbq30
                                  clear hbq30
                                  by_cases c31 : bq30 = true
                                  · subst c31
                                    have H1 : (if 0 ≤ ((rd_T32 t460 x32_2).f1) then (if ((rd_T32 t460 x32_2).f1) < (x9_2.length : Int) then (impl_TreeHeights.j2 k2 l1 l2 x8_2 x9_2 (l2.length : Int) x26_1 t460 (t460.length : Int) x32_2 (!(rdOf false x9_2 ((rd_T32 t460 x32_2).f1))) ((rd_T32 t460 x32_2).f0) ((rd_T32 t460 x32_2).f1) ((rd_T32 t460 x32_2).f2) ((rd_T32 t460 x32_2).f3)) else (none)) else (none)) = some (r1, r2) := by rw [if_pos rfl] at H; exact H
                                    clear H
                                    have H := H1
                                    clear H1
                                    by_cases c32 : 0 ≤ ((rd_T32 t460 x32_2).f1)
                                    · rw [if_pos c32] at H
                                      have c32b0 : decide (0 ≤ ((rd_T32 t460 x32_2).f1)) = true := decide_eq_true c32
                                      clear c32
                                      by_cases c33 : ((rd_T32 t460 x32_2).f1) < (x9_2.length : Int)
                                      · rw [if_pos c33] at H
                                        have c33b0 : decide (((rd_T32 t460 x32_2).f1) < (x9_2.length : Int)) = true := decide_eq_true c33
                                        clear c33
                                        have H' := Aside0.mk H
                                        clear H
                                        have hcz34_0 : w26.cell? ⟨gb464, 0, none⟩ = some (.int .i64 0) := (blk_cell BK464.out 0).trans rfl
                                        have hcz34_1 : w26.cell? ⟨gb464, 1, none⟩ = some (.int .i64 0) := (blk_cell BK464.out 1).trans rfl
                                        have hcz34_2 : w26.cell? ⟨gb464, 2, none⟩ = some (.int .i64 0) := (blk_cell BK464.out 2).trans rfl
                                        have hcz34_3 : w26.cell? ⟨gb464, 3, none⟩ = some (.int .i64 0) := (blk_cell BK464.out 3).trans rfl
                                        have hfz34_0 := blk_frozen BK464.out 0
                                        have hfz34_1 := blk_frozen BK464.out 1
                                        have hfz34_2 := blk_frozen BK464.out 2
                                        have hfz34_3 := blk_frozen BK464.out 3
                                        have p465 : 0 ≤ (((rd_T32 t460 x32_2).f0) : Int) := of_decide_eq_true qq3
                                        have q465 : ((rd_T32 t460 x32_2).f0) < (x9_2.length : Int) := of_decide_eq_true qq3
                                        obtain ⟨ad465, e465, hx465_0⟩ := Kd.at_bool (Kd.R_reads' HO_9.out).2.2 ((rd_T32 t460 x32_2).f0) p465 q465
                                        (try rw [← Nbq30.out] at hx465_0)
                                        obtain rfl : (⟨go10, 0, none⟩ : Addr) = ad465 := (by injection e465)
                                        (first | simp only [add_plain] at hx465_0 | simp only [add_at] at hx465_0 | simp only [Addr.add, Nat.zero_add] at hx465_0 | skip)
                                        have hn465_0 : (⟨go10, 0, none⟩ : Addr).block ≠ gb464 := Kd.own_blk (Kd.R_ne HO_9.out BK464.out (by decide))
                                        have hn465_1 : (⟨go10, 0, none⟩ : Addr).block ≠ gb464 := Kd.own_blk (Kd.R_ne HO_9.out BK464.out (by decide))
                                        have hn465_2 : (⟨go10, 0, none⟩ : Addr).block ≠ gb464 := Kd.own_blk (Kd.R_ne HO_9.out BK464.out (by decide))
                                        have hn465_3 : (⟨go10, 0, none⟩ : Addr).block ≠ gb464 := Kd.own_blk (Kd.R_ne HO_9.out BK464.out (by decide))
                                        replace hx465_0 := (cell_far (p := ⟨gb464, 0, none⟩) qq63 (.int .i64 ((rd_T32 t460 x32_2).f0))).trans hx465_0
                                        replace hx465_0 := (cell_far (p := ⟨gb464, 1, none⟩) qq64 (.int .i64 ((rd_T32 t460 x32_2).f1))).trans hx465_0
                                        replace hx465_0 := (cell_far (p := ⟨gb464, 2, none⟩) qq65 (.int .i64 ((rd_T32 t460 x32_2).f2))).trans hx465_0
                                        replace hx465_0 := (cell_far (p := ⟨gb464, 3, none⟩) qq66 (.int .i64 ((rd_T32 t460 x32_2).f3))).trans hx465_0
                                        clear hn465_0
                                        clear hn465_1
                                        clear hn465_2
                                        clear hn465_3
                                        replace p465 := eq_true p465
                                        replace q465 := eq_true q465
                                        have p466 : 0 ≤ (((rd_T32 t460 x32_2).f1) : Int) := of_decide_eq_true qq3
                                        have q466 : ((rd_T32 t460 x32_2).f1) < (x9_2.length : Int) := of_decide_eq_true qq3
                                        obtain ⟨ad466, e466, hx466_0⟩ := Kd.at_bool (Kd.R_reads' HO_9.out).2.2 ((rd_T32 t460 x32_2).f1) p466 q466
                                        (try rw [← Nbq30.out] at hx466_0)
                                        obtain rfl : (⟨go10, 0, none⟩ : Addr) = ad466 := (by injection e466)
                                        (first | simp only [add_plain] at hx466_0 | simp only [add_at] at hx466_0 | simp only [Addr.add, Nat.zero_add] at hx466_0 | skip)
                                        have hn466_0 : (⟨go10, 0, none⟩ : Addr).block ≠ gb464 := Kd.own_blk (Kd.R_ne HO_9.out BK464.out (by decide))
                                        have hn466_1 : (⟨go10, 0, none⟩ : Addr).block ≠ gb464 := Kd.own_blk (Kd.R_ne HO_9.out BK464.out (by decide))
                                        have hn466_2 : (⟨go10, 0, none⟩ : Addr).block ≠ gb464 := Kd.own_blk (Kd.R_ne HO_9.out BK464.out (by decide))
                                        have hn466_3 : (⟨go10, 0, none⟩ : Addr).block ≠ gb464 := Kd.own_blk (Kd.R_ne HO_9.out BK464.out (by decide))
                                        replace hx466_0 := (cell_far (p := ⟨gb464, 0, none⟩) (by first | (rw [add_block]; exact hn466_0) | (show (Addr.add _ _).block ≠ _; rw [add_block]; exact hn466_0) | exact hn466_0) (.int .i64 ((rd_T32 t460 x32_2).f0))).trans hx466_0
                                        replace hx466_0 := (cell_far (p := ⟨gb464, 1, none⟩) (by first | (rw [add_block]; exact hn466_1) | (show (Addr.add _ _).block ≠ _; rw [add_block]; exact hn466_1) | exact hn466_1) (.int .i64 ((rd_T32 t460 x32_2).f1))).trans hx466_0
                                        replace hx466_0 := (cell_far (p := ⟨gb464, 2, none⟩) (by first | (rw [add_block]; exact hn466_2) | (show (Addr.add _ _).block ≠ _; rw [add_block]; exact hn466_2) | exact hn466_2) (.int .i64 ((rd_T32 t460 x32_2).f2))).trans hx466_0
                                        replace hx466_0 := (cell_far (p := ⟨gb464, 3, none⟩) (by first | (rw [add_block]; exact hn466_3) | (show (Addr.add _ _).block ≠ _; rw [add_block]; exact hn466_3) | exact hn466_3) (.int .i64 ((rd_T32 t460 x32_2).f3))).trans hx466_0
                                        clear hn466_0
                                        clear hn466_1
                                        clear hn466_2
                                        clear hn466_3
                                        replace p466 := eq_true p466
                                        replace q466 := eq_true q466
                                        go_wp2
                                        go_meet
                                        case rel => exact ⟨_, (!(rdOf false x9_2 ((rd_T32 t460 x32_2).f1))), qq9, H', ⟨by have := HK1.out; have := HK2.out; first | omega | exact Nat.le_refl _⟩, ⟨qq22 HO_8.out BK464.out⟩, ⟨qq22 HO_9.out BK464.out⟩, ⟨qq30⟩, ⟨qq25⟩, ⟨qq4 HB.out GE464.out⟩⟩
                                      · rw [if_neg c33] at H
                                        exact absurd H (by simp)
                                    · rw [if_neg c32] at H
                                      exact absurd H (by simp)
                                  · replace c31 := Bool.eq_false_iff.mpr c31
                                    subst c31
                                    have H1 : (impl_TreeHeights.j2 k2 l1 l2 x8_2 x9_2 (l2.length : Int) x26_1 t460 (t460.length : Int) x32_2 false ((rd_T32 t460 x32_2).f0) ((rd_T32 t460 x32_2).f1) ((rd_T32 t460 x32_2).f2) ((rd_T32 t460 x32_2).f3)) = some (r1, r2) := by rw [if_neg (show ¬ (false = true) by decide)] at H; exact H
                                    clear H
                                    have H := H1
                                    clear H1
                                    have H' := Aside0.mk H
                                    clear H
                                    have hcz35_0 : w26.cell? ⟨gb464, 0, none⟩ = some (.int .i64 0) := (blk_cell BK464.out 0).trans rfl
                                    have hcz35_1 : w26.cell? ⟨gb464, 1, none⟩ = some (.int .i64 0) := (blk_cell BK464.out 1).trans rfl
                                    have hcz35_2 : w26.cell? ⟨gb464, 2, none⟩ = some (.int .i64 0) := (blk_cell BK464.out 2).trans rfl
                                    have hcz35_3 : w26.cell? ⟨gb464, 3, none⟩ = some (.int .i64 0) := (blk_cell BK464.out 3).trans rfl
                                    have hfz35_0 := blk_frozen BK464.out 0
                                    have hfz35_1 := blk_frozen BK464.out 1
                                    have hfz35_2 := blk_frozen BK464.out 2
                                    have hfz35_3 := blk_frozen BK464.out 3
                                    have p465 : 0 ≤ (((rd_T32 t460 x32_2).f0) : Int) := of_decide_eq_true qq3
                                    have q465 : ((rd_T32 t460 x32_2).f0) < (x9_2.length : Int) := of_decide_eq_true qq3
                                    obtain ⟨ad465, e465, hx465_0⟩ := Kd.at_bool (Kd.R_reads' HO_9.out).2.2 ((rd_T32 t460 x32_2).f0) p465 q465
                                    (try rw [← Nbq30.out] at hx465_0)
                                    obtain rfl : (⟨go10, 0, none⟩ : Addr) = ad465 := (by injection e465)
                                    (first | simp only [add_plain] at hx465_0 | simp only [add_at] at hx465_0 | simp only [Addr.add, Nat.zero_add] at hx465_0 | skip)
                                    have hn465_0 : (⟨go10, 0, none⟩ : Addr).block ≠ gb464 := Kd.own_blk (Kd.R_ne HO_9.out BK464.out (by decide))
                                    have hn465_1 : (⟨go10, 0, none⟩ : Addr).block ≠ gb464 := Kd.own_blk (Kd.R_ne HO_9.out BK464.out (by decide))
                                    have hn465_2 : (⟨go10, 0, none⟩ : Addr).block ≠ gb464 := Kd.own_blk (Kd.R_ne HO_9.out BK464.out (by decide))
                                    have hn465_3 : (⟨go10, 0, none⟩ : Addr).block ≠ gb464 := Kd.own_blk (Kd.R_ne HO_9.out BK464.out (by decide))
                                    replace hx465_0 := (cell_far (p := ⟨gb464, 0, none⟩) qq63 (.int .i64 ((rd_T32 t460 x32_2).f0))).trans hx465_0
                                    replace hx465_0 := (cell_far (p := ⟨gb464, 1, none⟩) qq64 (.int .i64 ((rd_T32 t460 x32_2).f1))).trans hx465_0
                                    replace hx465_0 := (cell_far (p := ⟨gb464, 2, none⟩) qq65 (.int .i64 ((rd_T32 t460 x32_2).f2))).trans hx465_0
                                    replace hx465_0 := (cell_far (p := ⟨gb464, 3, none⟩) qq66 (.int .i64 ((rd_T32 t460 x32_2).f3))).trans hx465_0
                                    clear hn465_0
                                    clear hn465_1
                                    clear hn465_2
                                    clear hn465_3
                                    replace p465 := eq_true p465
                                    replace q465 := eq_true q465
                                    go_wp2
                                    go_meet
                                    case rel => exact ⟨_, (false), qq9, H', ⟨by have := HK1.out; have := HK2.out; first | omega | exact Nat.le_refl _⟩, ⟨qq22 HO_8.out BK464.out⟩, ⟨qq22 HO_9.out BK464.out⟩, ⟨qq30⟩, ⟨qq25⟩, ⟨qq4 HB.out GE464.out⟩⟩
                                · rw [if_neg c29] at H
                                  exact absurd H (by simp)
                              · rw [if_neg c28] at H
                                exact absurd H (by simp)
                            case rest =>
                              clear HC25
                              try clear c1
                              try clear p1
                              try clear q1
                              try clear hx1
                              try clear qi1
                              try clear c2
                              try clear p2
                              try clear c3
                              try clear q3
                              try clear p4
                              try clear q4
                              try clear hx4
                              try clear c5
                              try clear c6
                              try clear c6b0
                              try clear c6b1
                              try clear c7
                              try clear c7b0
                              try clear c7b1
                              try clear c8
                              try clear c8b0
                              try clear c8b1
                              try clear c9
                              try clear c9b0
                              try clear c9b1
                              try clear p10
                              try clear q10
                              try clear hx10
                              try clear qi10
                              try clear hf10
                              try clear c11
                              try clear c18
                              try clear c18b0
                              try clear c22
                              try clear c22b0
                              try clear c23
                              try clear c23b0
                              try clear c24
                              try clear c24b0
                              try clear c27
                              try clear c28
                              try clear c28b0
                              try clear c29
                              try clear c29b0
                              try clear q30
                              try clear c31
                              try clear c32
                              try clear c32b0
                              try clear c33
                              try clear c33b0
                              try clear hcz27_0
                              try clear hcz27_1
                              try clear hcz27_2
                              try clear hcz27_3
                              try clear hcz34_0
                              try clear hcz34_1
                              try clear hcz34_2
                              try clear hcz34_3
                              try clear hcz35_0
                              try clear hcz35_1
                              try clear hcz35_2
                              try clear hcz35_3
                              try clear hfz27_0
                              try clear hfz27_1
                              try clear hfz27_2
                              try clear hfz27_3
                              try clear hfz34_0
                              try clear hfz34_1
                              try clear hfz34_2
                              try clear hfz34_3
                              try clear hfz35_0
                              try clear hfz35_1
                              try clear hfz35_2
                              try clear hfz35_3
                              try clear hx10_0
                              try clear hx463_0
                              try clear hx463_1
                              try clear hx463_2
                              try clear hx463_3
                              try clear hx465_0
                              try clear hx466_0
                              try clear p1
                              try clear p10
                              try clear p2
                              try clear p463
                              try clear p465
                              try clear p466
                              try clear q1
                              try clear q10
                              try clear q463
                              try clear q465
                              try clear q466
                              obtain ⟨kq, x36_24, rfl, HA, HJ24, HO_8, HO_9, HO_30, BK464, HB⟩ := hcut
                              cases kq with
                              | zero => exact absurd HA.out (by simp [impl_TreeHeights.j2])
                              | succ kj24 =>
                                have H := HA.out
                                clear HA
                                simp only [impl_TreeHeights.j2] at H
                                by_cases c36 : x36_24 = true
                                · subst c36
                                  have H1 : (if 0 ≤ ((rd_T32 t460 x32_2).f0) then (if ((rd_T32 t460 x32_2).f0) < (x8_2.length : Int) then (if 0 ≤ ((rd_T32 t460 x32_2).f1) then (if ((rd_T32 t460 x32_2).f1) < (x8_2.length : Int) then (if ((rd_T32 t460 x32_2).f1) < (x9_2.length : Int) then (impl_TreeHeights.l1 kj24 l1 l2 (x8_2.set (((rd_T32 t460 x32_2).f1) : Int).toNat (wrap64 ((rd x8_2 ((rd_T32 t460 x32_2).f0)) + ((rd_T32 t460 x32_2).f2)))) (x9_2.set (((rd_T32 t460 x32_2).f1) : Int).toNat true) (l2.length : Int) x26_1 t460 (t460.length : Int) (wrap64 (x32_2 + 1))) else (none)) else (none)) else (none)) else (none)) else (none)) = some (r1, r2) := by rw [if_pos rfl] at H; exact H
                                  clear H
                                  have H := H1
                                  clear H1
                                  by_cases c37 : 0 ≤ ((rd_T32 t460 x32_2).f0)
                                  · rw [if_pos c37] at H
                                    have c37b0 : decide (0 ≤ ((rd_T32 t460 x32_2).f0)) = true := decide_eq_true c37
                                    clear c37
                                    by_cases c38 : ((rd_T32 t460 x32_2).f0) < (x8_2.length : Int)
                                    · rw [if_pos c38] at H
                                      have c38b0 : decide (((rd_T32 t460 x32_2).f0) < (x8_2.length : Int)) = true := decide_eq_true c38
                                      clear c38
                                      by_cases c39 : 0 ≤ ((rd_T32 t460 x32_2).f1)
                                      · rw [if_pos c39] at H
                                        have c39b0 : decide (0 ≤ ((rd_T32 t460 x32_2).f1)) = true := decide_eq_true c39
                                        clear c39
                                        by_cases c40 : ((rd_T32 t460 x32_2).f1) < (x8_2.length : Int)
                                        · rw [if_pos c40] at H
                                          have c40b0 : decide (((rd_T32 t460 x32_2).f1) < (x8_2.length : Int)) = true := decide_eq_true c40
                                          clear c40
                                          obtain ⟨y468, hy468⟩ : ∃ y_ : List Int, y_ = (x8_2.set (((rd_T32 t460 x32_2).f1) : Int).toNat (wrap64 ((rd x8_2 ((rd_T32 t460 x32_2).f0)) + ((rd_T32 t460 x32_2).f2)))) := ⟨_, rfl⟩
                                          replace H : (if ((rd_T32 t460 x32_2).f1) < (x9_2.length : Int) then (impl_TreeHeights.l1 kj24 l1 l2 y468 (x9_2.set (((rd_T32 t460 x32_2).f1) : Int).toNat true) (l2.length : Int) x26_1 t460 (t460.length : Int) (wrap64 (x32_2 + 1))) else (none)) = some (r1, r2) := by first | (rw [hy468]; with_reducible exact H) | (have H2_ := (Option.bind_some _ _).symm.trans H; rw [hy468]; with_reducible exact H2_) | (have H2_ := (Option.bind_some _ _).symm.trans H; with_reducible exact H2_) | with_reducible exact H | (rw [hy468]; exact H) | exact H
                                          have Ny468 := Aside0.mk hy468
                                          clear hy468
                                          by_cases c42 : ((rd_T32 t460 x32_2).f1) < (x9_2.length : Int)
                                          · rw [if_pos c42] at H
                                            have c42b0 : decide (((rd_T32 t460 x32_2).f1) < (x9_2.length : Int)) = true := decide_eq_true c42
                                            clear c42
                                            obtain ⟨y469, hy469⟩ : ∃ y_ : List Bool, y_ = (x9_2.set (((rd_T32 t460 x32_2).f1) : Int).toNat true) := ⟨_, rfl⟩
                                            replace H : (impl_TreeHeights.l1 kj24 l1 l2 y468 y469 (l2.length : Int) x26_1 t460 (t460.length : Int) (wrap64 (x32_2 + 1))) = some (r1, r2) := by first | (rw [hy469]; with_reducible exact H) | (have H2_ := (Option.bind_some _ _).symm.trans H; rw [hy469]; with_reducible exact H2_) | (have H2_ := (Option.bind_some _ _).symm.trans H; with_reducible exact H2_) | with_reducible exact H | (rw [hy469]; exact H) | exact H
                                            have Ny469 := Aside0.mk hy469
                                            clear hy469
                                            have H' := Aside0.mk H
                                            clear H
                                            try go_wp2
                                            have n0_ := Aside0.mk (Kd.R_drew HO_8.out)
                                            have n1_ := Aside0.mk (Kd.R_drew HO_9.out)
                                            have n2_ := Aside0.mk (Kd.R_drew HO_30.out)
                                            have n3_ := Aside0.mk (blk_drew BK464.out)
                                            have n4_ := Aside0.mk (below_drew1 HB.out)
                                            clear HO_8
                                            clear HO_9
                                            clear HO_30
                                            clear BK464
                                            clear HB
                                            have HO_8 := n0_
                                            have HO_9 := n1_
                                            have HO_30 := n2_
                                            have BK464 := n3_
                                            have HB := n4_
                                            clear n0_ n1_ n2_ n3_ n4_
                                            obtain ⟨Ao45, co45, eo45⟩ := Kd.R_slice HO_8.out
                                            (first | subst eo45 | (injection eo45 with f1_ f2_ f3_; have f4_ := f1_.symm; have f5_ := f3_.symm; clear f1_ f2_ f3_; subst f4_; subst f5_))
                                            have p467 : 0 ≤ (((rd_T32 t460 x32_2).f0) : Int) := of_decide_eq_true qq3
                                            have q467 : ((rd_T32 t460 x32_2).f0) < (x8_2.length : Int) := of_decide_eq_true qq3
                                            obtain ⟨ad467, e467, hx467_0⟩ := Kd.at_int (Kd.R_reads' HO_8.out).2.2 ((rd_T32 t460 x32_2).f0) p467 q467
                                            cases e467
                                            replace p467 := eq_true p467
                                            replace q467 := eq_true q467
                                            have p41 : 0 ≤ (((rd_T32 t460 x32_2).f1) : Int) := of_decide_eq_true qq3
                                            have q41 : (((rd_T32 t460 x32_2).f1) : Int) < ((x8_2.length : Int) : Int) := of_decide_eq_true qq3
                                            obtain ⟨go41, co41, eo41, gb41, gl41, cl41, HG41⟩ := Kd.R_form HO_8.out (by omega)
                                            (first | cases eo41 | (injection eo41 with ea_ en_ ec_; (first | subst ea_ | (injection ea_ with ea_; subst ea_)); subst ec_; clear en_))
                                            have GB41 := Aside0.mk gb41
                                            have GG41 := Aside0.mk HG41
                                            clear gb41 gl41 HG41
                                            (first | simp only [add_plain] at hx467_0 | skip)
                                            obtain ⟨hx41_0, hf41_0⟩ := Kd.R_celln 0 HO_8.out (((rd_T32 t460 x32_2).f1) : Int) p41 q41
                                            replace p41 := eq_true p41
                                            replace q41 := eq_true q41
                                            have HP46 := Kd.R_putn HO_8.out (((rd_T32 t460 x32_2).f1) : Int) (wrap64 ((rd x8_2 ((rd_T32 t460 x32_2).f0)) + ((rd_T32 t460 x32_2).f2)))
                                            rw [← Ny468.out] at HP46
                                            have HQ46 := Aside0.mk HP46
                                            clear HP46
                                            refine start_ (n := 13) (S := fun w' => w'.cell? ⟨gb464, 0, none⟩ = some (.int .i64 ((rd_T32 t460 x32_2).f0)) ∧ w'.cell? ⟨gb464, 1, none⟩ = some (.int .i64 ((rd_T32 t460 x32_2).f1)) ∧ w'.cell? ⟨gb464, 2, none⟩ = some (.int .i64 ((rd_T32 t460 x32_2).f2)) ∧ w'.cell? ⟨gb464, 3, none⟩ = some (.int .i64 ((rd_T32 t460 x32_2).f3)) ∧ w'.cell? ⟨go41, (((rd_T32 t460 x32_2).f0)).toNat, none⟩ = some (.int .i64 (rd x8_2 ((rd_T32 t460 x32_2).f0)))) (ds := [12]) #[false, false, false, false, false, false, false, false, false, false, false, false, false] (by kernel_rfl) rfl rfl ⟨(blk_cell BK464.out 0).trans rfl, (blk_cell BK464.out 1).trans rfl, (blk_cell BK464.out 2).trans rfl, (blk_cell BK464.out 3).trans rfl, hx467_0⟩ (fun hHeld => ?_); refine with_tabW impl_TreeHeights.tab12 impl_TreeHeights.bits12 (fun HT_ HW_ => ?_)
                                            generalize wc.drew = w44 at HO_8 HO_9 HO_30 BK464 HB GG41 HQ46 hf41_0 hx41_0 hx467_0 hHeld ⊢
                                            refine pure_ (i := 0) (N := some 50) #[true, false, false, false, false, false, false, false, false, false, false, false, false] rfl rfl (any_of HT_.out (by kernel_rfl)) (fun _ _ _ h => h) (Or.inl ⟨by rfl, pA_⟩) pB_ ?_
                                            refine pure_ (i := 1) (N := some 51) #[true, true, false, false, false, false, false, false, false, false, false, false, false] rfl rfl (any_of HT_.out (by kernel_rfl)) (fun _ _ _ h => h) (Or.inl ⟨by rfl, pA_⟩) pB_ ?_
                                            refine pure_ (i := 3) (N := some 53) #[true, true, false, true, false, false, false, false, false, false, false, false, false] rfl rfl (any_of HT_.out (by kernel_rfl)) (fun _ _ _ h => h) (Or.inl ⟨by rfl, pA_⟩) pB_ ?_
                                            refine pure_ (i := 4) (N := some 54) #[true, true, false, true, true, false, false, false, false, false, false, false, false] rfl rfl (any_of HT_.out (by kernel_rfl)) (fun _ _ _ h => h) (Or.inl ⟨by rfl, pA_⟩) pB_ ?_
                                            refine pure_ (i := 8) (N := some 58) #[true, true, false, true, true, false, false, false, true, false, false, false, false] rfl rfl (any_of HT_.out (by kernel_rfl)) (fun _ _ _ h => h) (Or.inl ⟨by rfl, pA_⟩) pB_ ?_
                                            refine take_ (i := 2) (N := some 52) (v := ?_) (a' := ?_) #[true, true, true, true, true, false, false, false, true, false, false, false, false] rfl rfl (take_ofW HT_.out HW_.out (by kernel_rfl)) (fun _ _ _ h => h) (Or.inl ⟨by rfl, ?_⟩) hHeld ?_ ?_
                                            rotate_left
                                            · rintro w' ⟨s0, s1, s2, s3, s4⟩
                                              go_simp
                                              with_reducible rfl
                                            rotate_left
                                            · simp only [Act.put, List.setIfInBounds_toArray, List.set_cons_zero, List.set_cons_succ, i64_w, i32_w]
                                              rfl
                                            refine take_ (i := 5) (N := some 55) (v := ?_) (a' := ?_) #[true, true, true, true, true, true, false, false, true, false, false, false, false] rfl rfl (take_ofW HT_.out HW_.out (by kernel_rfl)) (fun _ _ _ h => h) (Or.inl ⟨by rfl, ?_⟩) hHeld ?_ ?_
                                            rotate_left
                                            · rintro w' ⟨s0, s1, s2, s3, s4⟩
                                              go_simp
                                              with_reducible rfl
                                            rotate_left
                                            · simp only [Act.put, List.setIfInBounds_toArray, List.set_cons_zero, List.set_cons_succ, i64_w, i32_w]
                                              rfl
                                            refine pure_ (i := 6) (N := some 56) #[true, true, true, true, true, true, true, false, true, false, false, false, false] rfl rfl (any_of HT_.out (by kernel_rfl)) (fun _ _ _ h => h) (Or.inl ⟨by rfl, pA_⟩) pB_ ?_
                                            refine take_ (i := 7) (N := some 57) (v := ?_) (a' := ?_) #[true, true, true, true, true, true, true, true, true, false, false, false, false] rfl rfl (take_ofW HT_.out HW_.out (by kernel_rfl)) (fun _ _ _ h => h) (Or.inl ⟨by rfl, ?_⟩) hHeld ?_ ?_
                                            rotate_left
                                            · rintro w' ⟨s0, s1, s2, s3, s4⟩
                                              go_simp
                                              with_reducible rfl
                                            rotate_left
                                            · simp only [Act.put, List.setIfInBounds_toArray, List.set_cons_zero, List.set_cons_succ, i64_w, i32_w]
                                              rfl
                                            refine take_ (i := 9) (N := some 59) (v := ?_) (a' := ?_) #[true, true, true, true, true, true, true, true, true, true, false, false, false] rfl rfl (take_ofW HT_.out HW_.out (by kernel_rfl)) (fun _ _ _ h => h) (Or.inl ⟨by rfl, ?_⟩) hHeld ?_ ?_
                                            rotate_left
                                            · rintro w' ⟨s0, s1, s2, s3, s4⟩
                                              go_simp
                                              with_reducible rfl
                                            rotate_left
                                            · simp only [Act.put, List.setIfInBounds_toArray, List.set_cons_zero, List.set_cons_succ, i64_w, i32_w]
                                              rfl
                                            refine pure_ (i := 10) (N := some 60) #[true, true, true, true, true, true, true, true, true, true, true, false, false] rfl rfl (any_of HT_.out (by kernel_rfl)) (fun _ _ _ h => h) (Or.inl ⟨by rfl, pA_⟩) pB_ ?_
                                            refine pure_ (i := 11) (N := some 61) #[true, true, true, true, true, true, true, true, true, true, true, true, false] rfl rfl (any_of HT_.out (by kernel_rfl)) (fun _ _ _ h => h) (Or.inl ⟨by rfl, pA_⟩) pB_ ?_
                                            refine last_ (i := 12) (N := none) #[true, true, true, true, true, true, true, true, true, true, true, true, true] rfl rfl (one_of HT_.out (by kernel_rfl)) (by decide) (fun K hK => ?_)
                                            refine skip_ (w1 := ?_) (by rfl) rfl ?_ ?_
                                            rotate_left
                                            · go_simp
                                              rfl
                                            refine hK.out _ _ ?_
                                            clear hK K
                                            refine done_ (done_of HT_.out (by kernel_rfl)) ?_
                                            have n0_ : Aside0 (Kd.R (Kd.int .i64) 3 (w44.setCell ⟨go41, (((rd_T32 t460 x32_2).f1) : Int).toNat, none⟩ (.int .i64 (wrap64 ((rd x8_2 ((rd_T32 t460 x32_2).f0)) + ((rd_T32 t460 x32_2).f2))))) w.heap.size (fun _ => True) (.slice (some ⟨go41, 0, none⟩) x8_2.length co45) y468) := ⟨qq2 HQ46.out⟩
                                            have n1_ : Aside0 (Kd.R Kd.bool 4 (w44.setCell ⟨go41, (((rd_T32 t460 x32_2).f1) : Int).toNat, none⟩ (.int .i64 (wrap64 ((rd x8_2 ((rd_T32 t460 x32_2).f0)) + ((rd_T32 t460 x32_2).f2))))) w.heap.size (fun _ => True) (.slice (some ⟨go10, 0, none⟩) x9_2.length co10) x9_2) := ⟨by (with_reducible repeat (first | apply Kd.R_alloc | apply Kd.R_drewN | apply Kd.R_drew)); exact Kd.R_mono (Kd.R_far (p := ⟨go41, (((rd_T32 t460 x32_2).f1) : Int).toNat, none⟩) (Kd.R_types HO_9.out GG41.out (by decide)) (fun _ hk => hk.2) (.int .i64 (wrap64 ((rd x8_2 ((rd_T32 t460 x32_2).f0)) + ((rd_T32 t460 x32_2).f2))))) (fun _ hk => trivial)⟩
                                            have n2_ : Aside0 (Kd.R k32 32 (w44.setCell ⟨go41, (((rd_T32 t460 x32_2).f1) : Int).toNat, none⟩ (.int .i64 (wrap64 ((rd x8_2 ((rd_T32 t460 x32_2).f0)) + ((rd_T32 t460 x32_2).f2))))) w.heap.size (fun k_ => k_ ≠ gb464) (.slice (some ad463) t460.length co21) t460) := ⟨by (with_reducible repeat (first | apply Kd.R_alloc | apply Kd.R_drewN | apply Kd.R_drew)); exact Kd.R_mono (Kd.R_far (p := ⟨go41, (((rd_T32 t460 x32_2).f1) : Int).toNat, none⟩) (Kd.R_types HO_30.out GG41.out (by decide)) (fun _ hk => hk.2) (.int .i64 (wrap64 ((rd x8_2 ((rd_T32 t460 x32_2).f0)) + ((rd_T32 t460 x32_2).f2))))) (fun _ hk => hk.1)⟩
                                            have n3_ : Aside0 ((w44.setCell ⟨go41, (((rd_T32 t460 x32_2).f1) : Int).toNat, none⟩ (.int .i64 (wrap64 ((rd x8_2 ((rd_T32 t460 x32_2).f0)) + ((rd_T32 t460 x32_2).f2))))).heap[gb464]? = some (.cells #[.int .i64 ((rd_T32 t460 x32_2).f0), .int .i64 ((rd_T32 t460 x32_2).f1), .int .i64 ((rd_T32 t460 x32_2).f2), .int .i64 ((rd_T32 t460 x32_2).f3)] 32 (0, 0))) := ⟨qq45⟩
                                            have n4_ : Aside0 (Below w.heap.size w (w44.setCell ⟨go41, (((rd_T32 t460 x32_2).f1) : Int).toNat, none⟩ (.int .i64 (wrap64 ((rd x8_2 ((rd_T32 t460 x32_2).f0)) + ((rd_T32 t460 x32_2).f2)))))) := ⟨qq28 HB.out GB41.out GE464.out⟩
                                            (try clear HO_8)
                                            (try clear HO_9)
                                            (try clear HO_30)
                                            (try clear BK464)
                                            (try clear HB)
                                            generalize (w44.setCell ⟨go41, (((rd_T32 t460 x32_2).f1) : Int).toNat, none⟩ (.int .i64 (wrap64 ((rd x8_2 ((rd_T32 t460 x32_2).f0)) + ((rd_T32 t460 x32_2).f2))))) = w47 at n0_ n1_ n2_ n3_ n4_ ⊢
                                            have HO_8 := n0_
                                            have HO_9 := n1_
                                            have HO_30 := n2_
                                            have BK464 := n3_
                                            have HB := n4_
                                            clear n0_ n1_ n2_ n3_ n4_
                                            have hcz48_0 : w47.cell? ⟨gb464, 0, none⟩ = some (.int .i64 ((rd_T32 t460 x32_2).f0)) := (blk_cell BK464.out 0).trans rfl
                                            have hcz48_1 : w47.cell? ⟨gb464, 1, none⟩ = some (.int .i64 ((rd_T32 t460 x32_2).f1)) := (blk_cell BK464.out 1).trans rfl
                                            have hcz48_2 : w47.cell? ⟨gb464, 2, none⟩ = some (.int .i64 ((rd_T32 t460 x32_2).f2)) := (blk_cell BK464.out 2).trans rfl
                                            have hcz48_3 : w47.cell? ⟨gb464, 3, none⟩ = some (.int .i64 ((rd_T32 t460 x32_2).f3)) := (blk_cell BK464.out 3).trans rfl
                                            have hfz48_0 := blk_frozen BK464.out 0
                                            have hfz48_1 := blk_frozen BK464.out 1
                                            have hfz48_2 := blk_frozen BK464.out 2
                                            have hfz48_3 := blk_frozen BK464.out 3
                                            have p43 : 0 ≤ (((rd_T32 t460 x32_2).f1) : Int) := of_decide_eq_true qq3
                                            have q43 : (((rd_T32 t460 x32_2).f1) : Int) < ((x9_2.length : Int) : Int) := of_decide_eq_true qq3
                                            obtain ⟨hx43_0, hf43_0⟩ := Kd.R_celln false HO_9.out (((rd_T32 t460 x32_2).f1) : Int) p43 q43
                                            replace p43 := eq_true p43
                                            replace q43 := eq_true q43
                                            obtain ⟨hy49_, hz49_⟩ := Kd.R_celln false HO_9.out (((rd_T32 t460 x32_2).f1) : Int) (of_decide_eq_true qq3) (of_decide_eq_true qq3)
                                            have HP49 := Kd.R_putg HO_9.out (((rd_T32 t460 x32_2).f1) : Int) true
                                            try go_wp2_with (first | ((with_reducible refine gate_store (t := 4) (p := 65) rfl ?_); refine store_event (t := 4) (p := 65) (v := ?vo_w50) (w1 := (w47.setCell ⟨go10, (((rd_T32 t460 x32_2).f1) : Int).toNat, none⟩ (.bool true))) ?hg ?ho ?hn ?hr ?_; (case ho => rfl); (case hg => rfl); (case hn => rfl); (case hr => exact qq17); intro w50 hw; have hg : w47.grownBy w50 (some go10) := (by rw [hw]; exact HP49.2); have hp_ : Kd.R Kd.bool 4 w50 w.heap.size (fun _ => True) (.slice (some ⟨go10, 0, none⟩) x9_2.length co10) y469 := (by rw [hw, Ny469.out]; exact HP49.1); clear HP49; have n0_ := Aside0.mk (Kd.R_over' (v := (.slice (some ⟨go10, 0, none⟩) x9_2.length co10)) (qq2 HO_8.out) (Kd.R_typed HO_9.out) (by decide) hg); have n1_ := Aside0.mk (hp_); have n2_ := Aside0.mk (Kd.R_over' (v := (.slice (some ⟨go10, 0, none⟩) x9_2.length co10)) (qq2 HO_30.out) (Kd.R_typed HO_9.out) (by decide) hg); have n3_ := Aside0.mk (blk_grown (g := gb464) (o := .cells #[.int .i64 ((rd_T32 t460 x32_2).f0), .int .i64 ((rd_T32 t460 x32_2).f1), .int .i64 ((rd_T32 t460 x32_2).f2), .int .i64 ((rd_T32 t460 x32_2).f3)] 32 (0, 0)) (qq27 BK464.out) hg (Kd.R_ne HO_9.out BK464.out (by decide))); have n4_ := Aside0.mk ((qq74 : Below w.heap.size w w50)); clear HO_8; clear HO_9; clear HO_30; clear BK464; clear HB; have HO_8 := n0_; have HO_9 := n1_; have HO_30 := n2_; have BK464 := n3_; have HB := n4_; clear n0_ n1_ n2_ n3_ n4_; clear hg hw hp_))
                                            (try simp only [← hl9_2])
                                            go_roundg kj24
                                            case measure => have := HK1.out; have := HK2.out; have := HJ24.out; omega
                                            case rel => exact ⟨(y468), (y469), (wrap64 (x32_2 + 1)), qq9, H', ⟨qq57⟩, ⟨qq24 HO_8.out⟩, ⟨qq24 HO_9.out⟩, ⟨qq40⟩, ⟨qq4 HB.out GE464.out⟩⟩
                                          · rw [if_neg c42] at H
                                            exact absurd H (by simp)
                                        · rw [if_neg c40] at H
                                          exact absurd H (by simp)
                                      · rw [if_neg c39] at H
                                        exact absurd H (by simp)
                                    · rw [if_neg c38] at H
                                      exact absurd H (by simp)
                                  · rw [if_neg c37] at H
                                    exact absurd H (by simp)
                                · replace c36 := Bool.eq_false_iff.mpr c36
                                  subst c36
                                  have H1 : (if 0 ≤ ((rd_T32 t460 x32_2).f1) then (if ((rd_T32 t460 x32_2).f1) < (x9_2.length : Int) then (if rdOf false x9_2 ((rd_T32 t460 x32_2).f1) = true then (if 0 ≤ ((rd_T32 t460 x32_2).f0) then (if ((rd_T32 t460 x32_2).f0) < (x9_2.length : Int) then (if rdOf false x9_2 ((rd_T32 t460 x32_2).f0) = true then (impl_TreeHeights.l1 kj24 l1 l2 x8_2 x9_2 (l2.length : Int) x26_1 t460 (t460.length : Int) (wrap64 (x32_2 + 1))) else (if ((rd_T32 t460 x32_2).f1) < (x8_2.length : Int) then (if ((rd_T32 t460 x32_2).f0) < (x8_2.length : Int) then (impl_TreeHeights.l1 kj24 l1 l2 (x8_2.set (((rd_T32 t460 x32_2).f0) : Int).toNat (wrap64 ((rd x8_2 ((rd_T32 t460 x32_2).f1)) - ((rd_T32 t460 x32_2).f2)))) (x9_2.set (((rd_T32 t460 x32_2).f0) : Int).toNat true) (l2.length : Int) x26_1 t460 (t460.length : Int) (wrap64 (x32_2 + 1))) else (none)) else (none))) else (none)) else (none)) else (impl_TreeHeights.l1 kj24 l1 l2 x8_2 x9_2 (l2.length : Int) x26_1 t460 (t460.length : Int) (wrap64 (x32_2 + 1)))) else (none)) else (none)) = some (r1, r2) := by rw [if_neg (show ¬ (false = true) by decide)] at H; exact H
                                  clear H
                                  have H := H1
                                  clear H1
                                  by_cases c51 : 0 ≤ ((rd_T32 t460 x32_2).f1)
                                  · rw [if_pos c51] at H
                                    have c51b0 : decide (0 ≤ ((rd_T32 t460 x32_2).f1)) = true := decide_eq_true c51
                                    clear c51
                                    by_cases c52 : ((rd_T32 t460 x32_2).f1) < (x9_2.length : Int)
                                    · rw [if_pos c52] at H
                                      have c52b0 : decide (((rd_T32 t460 x32_2).f1) < (x9_2.length : Int)) = true := decide_eq_true c52
                                      clear c52
                                      obtain ⟨bq53, hbq53⟩ : ∃ b_ : Bool, b_ = (rdOf false x9_2 ((rd_T32 t460 x32_2).f1)) := ⟨_, rfl⟩
                                      replace H : (if bq53 = true then (if 0 ≤ ((rd_T32 t460 x32_2).f0) then (if ((rd_T32 t460 x32_2).f0) < (x9_2.length : Int) then (if rdOf false x9_2 ((rd_T32 t460 x32_2).f0) = true then (impl_TreeHeights.l1 kj24 l1 l2 x8_2 x9_2 (l2.length : Int) x26_1 t460 (t460.length : Int) (wrap64 (x32_2 + 1))) else (if ((rd_T32 t460 x32_2).f1) < (x8_2.length : Int) then (if ((rd_T32 t460 x32_2).f0) < (x8_2.length : Int) then (impl_TreeHeights.l1 kj24 l1 l2 (x8_2.set (((rd_T32 t460 x32_2).f0) : Int).toNat (wrap64 ((rd x8_2 ((rd_T32 t460 x32_2).f1)) - ((rd_T32 t460 x32_2).f2)))) (x9_2.set (((rd_T32 t460 x32_2).f0) : Int).toNat true) (l2.length : Int) x26_1 t460 (t460.length : Int) (wrap64 (x32_2 + 1))) else (none)) else (none))) else (none)) else (none)) else (impl_TreeHeights.l1 kj24 l1 l2 x8_2 x9_2 (l2.length : Int) x26_1 t460 (t460.length : Int) (wrap64 (x32_2 + 1)))) = some (r1, r2) := by rw [← hbq53] at H; exact H
                                      have Nbq53 := Aside0.mk hbq53
                                      clear hbq53
                                      by_cases c54 : bq53 = true
                                      · subst c54
                                        have H1 : (if 0 ≤ ((rd_T32 t460 x32_2).f0) then (if ((rd_T32 t460 x32_2).f0) < (x9_2.length : Int) then (if rdOf false x9_2 ((rd_T32 t460 x32_2).f0) = true then (impl_TreeHeights.l1 kj24 l1 l2 x8_2 x9_2 (l2.length : Int) x26_1 t460 (t460.length : Int) (wrap64 (x32_2 + 1))) else (if ((rd_T32 t460 x32_2).f1) < (x8_2.length : Int) then (if ((rd_T32 t460 x32_2).f0) < (x8_2.length : Int) then (impl_TreeHeights.l1 kj24 l1 l2 (x8_2.set (((rd_T32 t460 x32_2).f0) : Int).toNat (wrap64 ((rd x8_2 ((rd_T32 t460 x32_2).f1)) - ((rd_T32 t460 x32_2).f2)))) (x9_2.set (((rd_T32 t460 x32_2).f0) : Int).toNat true) (l2.length : Int) x26_1 t460 (t460.length : Int) (wrap64 (x32_2 + 1))) else (none)) else (none))) else (none)) else (none)) = some (r1, r2) := by rw [if_pos rfl] at H; exact H
                                        clear H
                                        have H := H1
                                        clear H1
                                        by_cases c55 : 0 ≤ ((rd_T32 t460 x32_2).f0)
                                        · rw [if_pos c55] at H
                                          have c55b0 : decide (0 ≤ ((rd_T32 t460 x32_2).f0)) = true := decide_eq_true c55
                                          clear c55
                                          by_cases c56 : ((rd_T32 t460 x32_2).f0) < (x9_2.length : Int)
                                          · rw [if_pos c56] at H
                                            have c56b0 : decide (((rd_T32 t460 x32_2).f0) < (x9_2.length : Int)) = true := decide_eq_true c56
                                            clear c56
                                            obtain ⟨bq57, hbq57⟩ : ∃ b_ : Bool, b_ = (rdOf false x9_2 ((rd_T32 t460 x32_2).f0)) := ⟨_, rfl⟩
                                            replace H : (if bq57 = true then (impl_TreeHeights.l1 kj24 l1 l2 x8_2 x9_2 (l2.length : Int) x26_1 t460 (t460.length : Int) (wrap64 (x32_2 + 1))) else (if ((rd_T32 t460 x32_2).f1) < (x8_2.length : Int) then (if ((rd_T32 t460 x32_2).f0) < (x8_2.length : Int) then (impl_TreeHeights.l1 kj24 l1 l2 (x8_2.set (((rd_T32 t460 x32_2).f0) : Int).toNat (wrap64 ((rd x8_2 ((rd_T32 t460 x32_2).f1)) - ((rd_T32 t460 x32_2).f2)))) (x9_2.set (((rd_T32 t460 x32_2).f0) : Int).toNat true) (l2.length : Int) x26_1 t460 (t460.length : Int) (wrap64 (x32_2 + 1))) else (none)) else (none))) = some (r1, r2) := by rw [← hbq57] at H; exact H
                                            have Nbq57 := Aside0.mk hbq57
                                            clear hbq57
                                            by_cases c58 : bq57 = true
                                            · subst c58
                                              have H1 : (impl_TreeHeights.l1 kj24 l1 l2 x8_2 x9_2 (l2.length : Int) x26_1 t460 (t460.length : Int) (wrap64 (x32_2 + 1))) = some (r1, r2) := by rw [if_pos rfl] at H; exact H
                                              clear H
                                              have H := H1
                                              clear H1
                                              have H' := Aside0.mk H
                                              clear H
                                              have hcz59_0 : wc.cell? ⟨gb464, 0, none⟩ = some (.int .i64 ((rd_T32 t460 x32_2).f0)) := (blk_cell BK464.out 0).trans rfl
                                              have hcz59_1 : wc.cell? ⟨gb464, 1, none⟩ = some (.int .i64 ((rd_T32 t460 x32_2).f1)) := (blk_cell BK464.out 1).trans rfl
                                              have hcz59_2 : wc.cell? ⟨gb464, 2, none⟩ = some (.int .i64 ((rd_T32 t460 x32_2).f2)) := (blk_cell BK464.out 2).trans rfl
                                              have hcz59_3 : wc.cell? ⟨gb464, 3, none⟩ = some (.int .i64 ((rd_T32 t460 x32_2).f3)) := (blk_cell BK464.out 3).trans rfl
                                              have hfz59_0 := blk_frozen BK464.out 0
                                              have hfz59_1 := blk_frozen BK464.out 1
                                              have hfz59_2 := blk_frozen BK464.out 2
                                              have hfz59_3 := blk_frozen BK464.out 3
                                              have p470 : 0 ≤ (((rd_T32 t460 x32_2).f1) : Int) := of_decide_eq_true qq3
                                              have q470 : ((rd_T32 t460 x32_2).f1) < (x9_2.length : Int) := of_decide_eq_true qq3
                                              obtain ⟨ad470, e470, hx470_0⟩ := Kd.at_bool (Kd.R_reads' HO_9.out).2.2 ((rd_T32 t460 x32_2).f1) p470 q470
                                              (try rw [← Nbq53.out] at hx470_0)
                                              (try rw [← Nbq57.out] at hx470_0)
                                              obtain rfl : (⟨go10, 0, none⟩ : Addr) = ad470 := (by injection e470)
                                              (first | simp only [add_plain] at hx470_0 | simp only [add_at] at hx470_0 | simp only [Addr.add, Nat.zero_add] at hx470_0 | skip)
                                              replace p470 := eq_true p470
                                              replace q470 := eq_true q470
                                              have p471 : 0 ≤ (((rd_T32 t460 x32_2).f0) : Int) := of_decide_eq_true qq3
                                              have q471 : ((rd_T32 t460 x32_2).f0) < (x9_2.length : Int) := of_decide_eq_true qq3
                                              obtain ⟨ad471, e471, hx471_0⟩ := Kd.at_bool (Kd.R_reads' HO_9.out).2.2 ((rd_T32 t460 x32_2).f0) p471 q471
                                              (try rw [← Nbq53.out] at hx471_0)
                                              (try rw [← Nbq57.out] at hx471_0)
                                              obtain rfl : (⟨go10, 0, none⟩ : Addr) = ad471 := (by injection e471)
                                              (first | simp only [add_plain] at hx471_0 | simp only [add_at] at hx471_0 | simp only [Addr.add, Nat.zero_add] at hx471_0 | skip)
                                              replace p471 := eq_true p471
                                              replace q471 := eq_true q471
                                              go_wp2
                                              (try simp only [← hl9_2])
                                              go_roundg kj24
                                              case measure => have := HK1.out; have := HK2.out; have := HJ24.out; omega
                                              case rel => exact ⟨(x8_2), (x9_2), (wrap64 (x32_2 + 1)), qq9, H', ⟨qq57⟩, ⟨qq24 HO_8.out⟩, ⟨qq24 HO_9.out⟩, ⟨qq40⟩, ⟨qq4 HB.out GE464.out⟩⟩
                                            · replace c58 := Bool.eq_false_iff.mpr c58
                                              subst c58
                                              have H1 : (if ((rd_T32 t460 x32_2).f1) < (x8_2.length : Int) then (if ((rd_T32 t460 x32_2).f0) < (x8_2.length : Int) then (impl_TreeHeights.l1 kj24 l1 l2 (x8_2.set (((rd_T32 t460 x32_2).f0) : Int).toNat (wrap64 ((rd x8_2 ((rd_T32 t460 x32_2).f1)) - ((rd_T32 t460 x32_2).f2)))) (x9_2.set (((rd_T32 t460 x32_2).f0) : Int).toNat true) (l2.length : Int) x26_1 t460 (t460.length : Int) (wrap64 (x32_2 + 1))) else (none)) else (none)) = some (r1, r2) := by rw [if_neg (show ¬ (false = true) by decide)] at H; exact H
                                              clear H
                                              have H := H1
                                              clear H1
                                              by_cases c60 : ((rd_T32 t460 x32_2).f1) < (x8_2.length : Int)
                                              · rw [if_pos c60] at H
                                                have c60b0 : decide (((rd_T32 t460 x32_2).f1) < (x8_2.length : Int)) = true := decide_eq_true c60
                                                clear c60
                                                by_cases c61 : ((rd_T32 t460 x32_2).f0) < (x8_2.length : Int)
                                                · rw [if_pos c61] at H
                                                  have c61b0 : decide (((rd_T32 t460 x32_2).f0) < (x8_2.length : Int)) = true := decide_eq_true c61
                                                  clear c61
                                                  obtain ⟨y473, hy473⟩ : ∃ y_ : List Int, y_ = (x8_2.set (((rd_T32 t460 x32_2).f0) : Int).toNat (wrap64 ((rd x8_2 ((rd_T32 t460 x32_2).f1)) - ((rd_T32 t460 x32_2).f2)))) := ⟨_, rfl⟩
                                                  replace H : (impl_TreeHeights.l1 kj24 l1 l2 y473 (x9_2.set (((rd_T32 t460 x32_2).f0) : Int).toNat true) (l2.length : Int) x26_1 t460 (t460.length : Int) (wrap64 (x32_2 + 1))) = some (r1, r2) := by first | (rw [hy473]; with_reducible exact H) | (have H2_ := (Option.bind_some _ _).symm.trans H; rw [hy473]; with_reducible exact H2_) | (have H2_ := (Option.bind_some _ _).symm.trans H; with_reducible exact H2_) | with_reducible exact H | (rw [hy473]; exact H) | exact H
                                                  have Ny473 := Aside0.mk hy473
                                                  clear hy473
                                                  obtain ⟨y474, hy474⟩ : ∃ y_ : List Bool, y_ = (x9_2.set (((rd_T32 t460 x32_2).f0) : Int).toNat true) := ⟨_, rfl⟩
                                                  replace H : (impl_TreeHeights.l1 kj24 l1 l2 y473 y474 (l2.length : Int) x26_1 t460 (t460.length : Int) (wrap64 (x32_2 + 1))) = some (r1, r2) := by first | (rw [hy474]; with_reducible exact H) | (have H2_ := (Option.bind_some _ _).symm.trans H; rw [hy474]; with_reducible exact H2_) | (have H2_ := (Option.bind_some _ _).symm.trans H; with_reducible exact H2_) | with_reducible exact H | (rw [hy474]; exact H) | exact H
                                                  have Ny474 := Aside0.mk hy474
                                                  clear hy474
                                                  have H' := Aside0.mk H
                                                  clear H
                                                  have hcz64_0 : wc.cell? ⟨gb464, 0, none⟩ = some (.int .i64 ((rd_T32 t460 x32_2).f0)) := (blk_cell BK464.out 0).trans rfl
                                                  have hcz64_1 : wc.cell? ⟨gb464, 1, none⟩ = some (.int .i64 ((rd_T32 t460 x32_2).f1)) := (blk_cell BK464.out 1).trans rfl
                                                  have hcz64_2 : wc.cell? ⟨gb464, 2, none⟩ = some (.int .i64 ((rd_T32 t460 x32_2).f2)) := (blk_cell BK464.out 2).trans rfl
                                                  have hcz64_3 : wc.cell? ⟨gb464, 3, none⟩ = some (.int .i64 ((rd_T32 t460 x32_2).f3)) := (blk_cell BK464.out 3).trans rfl
                                                  have hfz64_0 := blk_frozen BK464.out 0
                                                  have hfz64_1 := blk_frozen BK464.out 1
                                                  have hfz64_2 := blk_frozen BK464.out 2
                                                  have hfz64_3 := blk_frozen BK464.out 3
                                                  have p470 : 0 ≤ (((rd_T32 t460 x32_2).f1) : Int) := of_decide_eq_true qq3
                                                  have q470 : ((rd_T32 t460 x32_2).f1) < (x9_2.length : Int) := of_decide_eq_true qq3
                                                  obtain ⟨ad470, e470, hx470_0⟩ := Kd.at_bool (Kd.R_reads' HO_9.out).2.2 ((rd_T32 t460 x32_2).f1) p470 q470
                                                  (try rw [← Nbq53.out] at hx470_0)
                                                  (try rw [← Nbq57.out] at hx470_0)
                                                  obtain rfl : (⟨go10, 0, none⟩ : Addr) = ad470 := (by injection e470)
                                                  (first | simp only [add_plain] at hx470_0 | simp only [add_at] at hx470_0 | simp only [Addr.add, Nat.zero_add] at hx470_0 | skip)
                                                  replace p470 := eq_true p470
                                                  replace q470 := eq_true q470
                                                  have p471 : 0 ≤ (((rd_T32 t460 x32_2).f0) : Int) := of_decide_eq_true qq3
                                                  have q471 : ((rd_T32 t460 x32_2).f0) < (x9_2.length : Int) := of_decide_eq_true qq3
                                                  obtain ⟨ad471, e471, hx471_0⟩ := Kd.at_bool (Kd.R_reads' HO_9.out).2.2 ((rd_T32 t460 x32_2).f0) p471 q471
                                                  (try rw [← Nbq53.out] at hx471_0)
                                                  (try rw [← Nbq57.out] at hx471_0)
                                                  obtain rfl : (⟨go10, 0, none⟩ : Addr) = ad471 := (by injection e471)
                                                  (first | simp only [add_plain] at hx471_0 | simp only [add_at] at hx471_0 | simp only [Addr.add, Nat.zero_add] at hx471_0 | skip)
                                                  replace p471 := eq_true p471
                                                  replace q471 := eq_true q471
                                                  try go_wp2
                                                  have n0_ := Aside0.mk (Kd.R_drew HO_8.out)
                                                  have n1_ := Aside0.mk (Kd.R_drew HO_9.out)
                                                  have n2_ := Aside0.mk (Kd.R_drew HO_30.out)
                                                  have n3_ := Aside0.mk (blk_drew BK464.out)
                                                  have n4_ := Aside0.mk (below_drew1 HB.out)
                                                  clear HO_8
                                                  clear HO_9
                                                  clear HO_30
                                                  clear BK464
                                                  clear HB
                                                  have HO_8 := n0_
                                                  have HO_9 := n1_
                                                  have HO_30 := n2_
                                                  have BK464 := n3_
                                                  have HB := n4_
                                                  clear n0_ n1_ n2_ n3_ n4_
                                                  obtain ⟨Ao66, co66, eo66⟩ := Kd.R_slice HO_8.out
                                                  (first | subst eo66 | (injection eo66 with f1_ f2_ f3_; have f4_ := f1_.symm; have f5_ := f3_.symm; clear f1_ f2_ f3_; subst f4_; subst f5_))
                                                  have p472 : 0 ≤ (((rd_T32 t460 x32_2).f1) : Int) := of_decide_eq_true qq3
                                                  have q472 : ((rd_T32 t460 x32_2).f1) < (x8_2.length : Int) := of_decide_eq_true qq3
                                                  obtain ⟨ad472, e472, hx472_0⟩ := Kd.at_int (Kd.R_reads' HO_8.out).2.2 ((rd_T32 t460 x32_2).f1) p472 q472
                                                  cases e472
                                                  replace p472 := eq_true p472
                                                  replace q472 := eq_true q472
                                                  have p62 : 0 ≤ (((rd_T32 t460 x32_2).f0) : Int) := of_decide_eq_true qq3
                                                  have q62 : (((rd_T32 t460 x32_2).f0) : Int) < ((x8_2.length : Int) : Int) := of_decide_eq_true qq3
                                                  obtain ⟨go62, co62, eo62, gb62, gl62, cl62, HG62⟩ := Kd.R_form HO_8.out (by omega)
                                                  (first | cases eo62 | (injection eo62 with ea_ en_ ec_; (first | subst ea_ | (injection ea_ with ea_; subst ea_)); subst ec_; clear en_))
                                                  have GB62 := Aside0.mk gb62
                                                  have GG62 := Aside0.mk HG62
                                                  clear gb62 gl62 HG62
                                                  (first | simp only [add_plain] at hx472_0 | skip)
                                                  obtain ⟨hx62_0, hf62_0⟩ := Kd.R_celln 0 HO_8.out (((rd_T32 t460 x32_2).f0) : Int) p62 q62
                                                  replace p62 := eq_true p62
                                                  replace q62 := eq_true q62
                                                  have HP67 := Kd.R_putn HO_8.out (((rd_T32 t460 x32_2).f0) : Int) (wrap64 ((rd x8_2 ((rd_T32 t460 x32_2).f1)) - ((rd_T32 t460 x32_2).f2)))
                                                  rw [← Ny473.out] at HP67
                                                  have HQ67 := Aside0.mk HP67
                                                  clear HP67
                                                  refine start_ (n := 13) (S := fun w' => w'.cell? ⟨gb464, 0, none⟩ = some (.int .i64 ((rd_T32 t460 x32_2).f0)) ∧ w'.cell? ⟨gb464, 1, none⟩ = some (.int .i64 ((rd_T32 t460 x32_2).f1)) ∧ w'.cell? ⟨gb464, 2, none⟩ = some (.int .i64 ((rd_T32 t460 x32_2).f2)) ∧ w'.cell? ⟨gb464, 3, none⟩ = some (.int .i64 ((rd_T32 t460 x32_2).f3)) ∧ w'.cell? ⟨go62, (((rd_T32 t460 x32_2).f1)).toNat, none⟩ = some (.int .i64 (rd x8_2 ((rd_T32 t460 x32_2).f1)))) (ds := [12]) #[false, false, false, false, false, false, false, false, false, false, false, false, false] (by kernel_rfl) rfl rfl ⟨(blk_cell BK464.out 0).trans rfl, (blk_cell BK464.out 1).trans rfl, (blk_cell BK464.out 2).trans rfl, (blk_cell BK464.out 3).trans rfl, hx472_0⟩ (fun hHeld => ?_); refine with_tabW impl_TreeHeights.tab15 impl_TreeHeights.bits15 (fun HT_ HW_ => ?_)
                                                  generalize wc.drew = w65 at HO_8 HO_9 HO_30 BK464 HB GG62 HQ67 hf62_0 hx472_0 hx62_0 hHeld ⊢
                                                  refine pure_ (i := 0) (N := some 80) #[true, false, false, false, false, false, false, false, false, false, false, false, false] rfl rfl (any_of HT_.out (by kernel_rfl)) (fun _ _ _ h => h) (Or.inl ⟨by rfl, pA_⟩) pB_ ?_
                                                  refine pure_ (i := 1) (N := some 81) #[true, true, false, false, false, false, false, false, false, false, false, false, false] rfl rfl (any_of HT_.out (by kernel_rfl)) (fun _ _ _ h => h) (Or.inl ⟨by rfl, pA_⟩) pB_ ?_
                                                  refine pure_ (i := 3) (N := some 83) #[true, true, false, true, false, false, false, false, false, false, false, false, false] rfl rfl (any_of HT_.out (by kernel_rfl)) (fun _ _ _ h => h) (Or.inl ⟨by rfl, pA_⟩) pB_ ?_
                                                  refine pure_ (i := 4) (N := some 84) #[true, true, false, true, true, false, false, false, false, false, false, false, false] rfl rfl (any_of HT_.out (by kernel_rfl)) (fun _ _ _ h => h) (Or.inl ⟨by rfl, pA_⟩) pB_ ?_
                                                  refine pure_ (i := 8) (N := some 88) #[true, true, false, true, true, false, false, false, true, false, false, false, false] rfl rfl (any_of HT_.out (by kernel_rfl)) (fun _ _ _ h => h) (Or.inl ⟨by rfl, pA_⟩) pB_ ?_
                                                  refine take_ (i := 2) (N := some 82) (v := ?_) (a' := ?_) #[true, true, true, true, true, false, false, false, true, false, false, false, false] rfl rfl (take_ofW HT_.out HW_.out (by kernel_rfl)) (fun _ _ _ h => h) (Or.inl ⟨by rfl, ?_⟩) hHeld ?_ ?_
                                                  rotate_left
                                                  · rintro w' ⟨s0, s1, s2, s3, s4⟩
                                                    go_simp
                                                    with_reducible rfl
                                                  rotate_left
                                                  · simp only [Act.put, List.setIfInBounds_toArray, List.set_cons_zero, List.set_cons_succ, i64_w, i32_w]
                                                    rfl
                                                  refine take_ (i := 5) (N := some 85) (v := ?_) (a' := ?_) #[true, true, true, true, true, true, false, false, true, false, false, false, false] rfl rfl (take_ofW HT_.out HW_.out (by kernel_rfl)) (fun _ _ _ h => h) (Or.inl ⟨by rfl, ?_⟩) hHeld ?_ ?_
                                                  rotate_left
                                                  · rintro w' ⟨s0, s1, s2, s3, s4⟩
                                                    go_simp
                                                    with_reducible rfl
                                                  rotate_left
                                                  · simp only [Act.put, List.setIfInBounds_toArray, List.set_cons_zero, List.set_cons_succ, i64_w, i32_w]
                                                    rfl
                                                  refine pure_ (i := 6) (N := some 86) #[true, true, true, true, true, true, true, false, true, false, false, false, false] rfl rfl (any_of HT_.out (by kernel_rfl)) (fun _ _ _ h => h) (Or.inl ⟨by rfl, pA_⟩) pB_ ?_
                                                  refine take_ (i := 7) (N := some 87) (v := ?_) (a' := ?_) #[true, true, true, true, true, true, true, true, true, false, false, false, false] rfl rfl (take_ofW HT_.out HW_.out (by kernel_rfl)) (fun _ _ _ h => h) (Or.inl ⟨by rfl, ?_⟩) hHeld ?_ ?_
                                                  rotate_left
                                                  · rintro w' ⟨s0, s1, s2, s3, s4⟩
                                                    go_simp
                                                    with_reducible rfl
                                                  rotate_left
                                                  · simp only [Act.put, List.setIfInBounds_toArray, List.set_cons_zero, List.set_cons_succ, i64_w, i32_w]
                                                    rfl
                                                  refine take_ (i := 9) (N := some 89) (v := ?_) (a' := ?_) #[true, true, true, true, true, true, true, true, true, true, false, false, false] rfl rfl (take_ofW HT_.out HW_.out (by kernel_rfl)) (fun _ _ _ h => h) (Or.inl ⟨by rfl, ?_⟩) hHeld ?_ ?_
                                                  rotate_left
                                                  · rintro w' ⟨s0, s1, s2, s3, s4⟩
                                                    go_simp
                                                    with_reducible rfl
                                                  rotate_left
                                                  · simp only [Act.put, List.setIfInBounds_toArray, List.set_cons_zero, List.set_cons_succ, i64_w, i32_w]
                                                    rfl
                                                  refine pure_ (i := 10) (N := some 90) #[true, true, true, true, true, true, true, true, true, true, true, false, false] rfl rfl (any_of HT_.out (by kernel_rfl)) (fun _ _ _ h => h) (Or.inl ⟨by rfl, pA_⟩) pB_ ?_
                                                  refine pure_ (i := 11) (N := some 91) #[true, true, true, true, true, true, true, true, true, true, true, true, false] rfl rfl (any_of HT_.out (by kernel_rfl)) (fun _ _ _ h => h) (Or.inl ⟨by rfl, pA_⟩) pB_ ?_
                                                  refine last_ (i := 12) (N := none) #[true, true, true, true, true, true, true, true, true, true, true, true, true] rfl rfl (one_of HT_.out (by kernel_rfl)) (by decide) (fun K hK => ?_)
                                                  refine skip_ (w1 := ?_) (by rfl) rfl ?_ ?_
                                                  rotate_left
                                                  · go_simp
                                                    rfl
                                                  refine hK.out _ _ ?_
                                                  clear hK K
                                                  refine done_ (done_of HT_.out (by kernel_rfl)) ?_
                                                  have n0_ : Aside0 (Kd.R (Kd.int .i64) 3 (w65.setCell ⟨go62, (((rd_T32 t460 x32_2).f0) : Int).toNat, none⟩ (.int .i64 (wrap64 ((rd x8_2 ((rd_T32 t460 x32_2).f1)) - ((rd_T32 t460 x32_2).f2))))) w.heap.size (fun _ => True) (.slice (some ⟨go62, 0, none⟩) x8_2.length co66) y473) := ⟨qq2 HQ67.out⟩
                                                  have n1_ : Aside0 (Kd.R Kd.bool 4 (w65.setCell ⟨go62, (((rd_T32 t460 x32_2).f0) : Int).toNat, none⟩ (.int .i64 (wrap64 ((rd x8_2 ((rd_T32 t460 x32_2).f1)) - ((rd_T32 t460 x32_2).f2))))) w.heap.size (fun _ => True) (.slice (some ⟨go10, 0, none⟩) x9_2.length co10) x9_2) := ⟨by (with_reducible repeat (first | apply Kd.R_alloc | apply Kd.R_drewN | apply Kd.R_drew)); exact Kd.R_mono (Kd.R_far (p := ⟨go62, (((rd_T32 t460 x32_2).f0) : Int).toNat, none⟩) (Kd.R_types HO_9.out GG62.out (by decide)) (fun _ hk => hk.2) (.int .i64 (wrap64 ((rd x8_2 ((rd_T32 t460 x32_2).f1)) - ((rd_T32 t460 x32_2).f2))))) (fun _ hk => trivial)⟩
                                                  have n2_ : Aside0 (Kd.R k32 32 (w65.setCell ⟨go62, (((rd_T32 t460 x32_2).f0) : Int).toNat, none⟩ (.int .i64 (wrap64 ((rd x8_2 ((rd_T32 t460 x32_2).f1)) - ((rd_T32 t460 x32_2).f2))))) w.heap.size (fun k_ => k_ ≠ gb464) (.slice (some ad463) t460.length co21) t460) := ⟨by (with_reducible repeat (first | apply Kd.R_alloc | apply Kd.R_drewN | apply Kd.R_drew)); exact Kd.R_mono (Kd.R_far (p := ⟨go62, (((rd_T32 t460 x32_2).f0) : Int).toNat, none⟩) (Kd.R_types HO_30.out GG62.out (by decide)) (fun _ hk => hk.2) (.int .i64 (wrap64 ((rd x8_2 ((rd_T32 t460 x32_2).f1)) - ((rd_T32 t460 x32_2).f2))))) (fun _ hk => hk.1)⟩
                                                  have n3_ : Aside0 ((w65.setCell ⟨go62, (((rd_T32 t460 x32_2).f0) : Int).toNat, none⟩ (.int .i64 (wrap64 ((rd x8_2 ((rd_T32 t460 x32_2).f1)) - ((rd_T32 t460 x32_2).f2))))).heap[gb464]? = some (.cells #[.int .i64 ((rd_T32 t460 x32_2).f0), .int .i64 ((rd_T32 t460 x32_2).f1), .int .i64 ((rd_T32 t460 x32_2).f2), .int .i64 ((rd_T32 t460 x32_2).f3)] 32 (0, 0))) := ⟨qq45⟩
                                                  have n4_ : Aside0 (Below w.heap.size w (w65.setCell ⟨go62, (((rd_T32 t460 x32_2).f0) : Int).toNat, none⟩ (.int .i64 (wrap64 ((rd x8_2 ((rd_T32 t460 x32_2).f1)) - ((rd_T32 t460 x32_2).f2)))))) := ⟨qq28 HB.out GB62.out GE464.out⟩
                                                  (try clear HO_8)
                                                  (try clear HO_9)
                                                  (try clear HO_30)
                                                  (try clear BK464)
                                                  (try clear HB)
                                                  generalize (w65.setCell ⟨go62, (((rd_T32 t460 x32_2).f0) : Int).toNat, none⟩ (.int .i64 (wrap64 ((rd x8_2 ((rd_T32 t460 x32_2).f1)) - ((rd_T32 t460 x32_2).f2))))) = w68 at n0_ n1_ n2_ n3_ n4_ ⊢
                                                  have HO_8 := n0_
                                                  have HO_9 := n1_
                                                  have HO_30 := n2_
                                                  have BK464 := n3_
                                                  have HB := n4_
                                                  clear n0_ n1_ n2_ n3_ n4_
                                                  have hcz69_0 : w68.cell? ⟨gb464, 0, none⟩ = some (.int .i64 ((rd_T32 t460 x32_2).f0)) := (blk_cell BK464.out 0).trans rfl
                                                  have hcz69_1 : w68.cell? ⟨gb464, 1, none⟩ = some (.int .i64 ((rd_T32 t460 x32_2).f1)) := (blk_cell BK464.out 1).trans rfl
                                                  have hcz69_2 : w68.cell? ⟨gb464, 2, none⟩ = some (.int .i64 ((rd_T32 t460 x32_2).f2)) := (blk_cell BK464.out 2).trans rfl
                                                  have hcz69_3 : w68.cell? ⟨gb464, 3, none⟩ = some (.int .i64 ((rd_T32 t460 x32_2).f3)) := (blk_cell BK464.out 3).trans rfl
                                                  have hfz69_0 := blk_frozen BK464.out 0
                                                  have hfz69_1 := blk_frozen BK464.out 1
                                                  have hfz69_2 := blk_frozen BK464.out 2
                                                  have hfz69_3 := blk_frozen BK464.out 3
                                                  have p63 : 0 ≤ (((rd_T32 t460 x32_2).f0) : Int) := of_decide_eq_true qq3
                                                  have q63 : (((rd_T32 t460 x32_2).f0) : Int) < ((x9_2.length : Int) : Int) := of_decide_eq_true qq3
                                                  obtain ⟨hx63_0, hf63_0⟩ := Kd.R_celln false HO_9.out (((rd_T32 t460 x32_2).f0) : Int) p63 q63
                                                  replace p63 := eq_true p63
                                                  replace q63 := eq_true q63
                                                  obtain ⟨hy70_, hz70_⟩ := Kd.R_celln false HO_9.out (((rd_T32 t460 x32_2).f0) : Int) (of_decide_eq_true qq3) (of_decide_eq_true qq3)
                                                  have HP70 := Kd.R_putg HO_9.out (((rd_T32 t460 x32_2).f0) : Int) true
                                                  try go_wp2_with (first | ((with_reducible refine gate_store (t := 4) (p := 95) rfl ?_); refine store_event (t := 4) (p := 95) (v := ?vo_w71) (w1 := (w68.setCell ⟨go10, (((rd_T32 t460 x32_2).f0) : Int).toNat, none⟩ (.bool true))) ?hg ?ho ?hn ?hr ?_; (case ho => rfl); (case hg => rfl); (case hn => rfl); (case hr => exact qq17); intro w71 hw; have hg : w68.grownBy w71 (some go10) := (by rw [hw]; exact HP70.2); have hp_ : Kd.R Kd.bool 4 w71 w.heap.size (fun _ => True) (.slice (some ⟨go10, 0, none⟩) x9_2.length co10) y474 := (by rw [hw, Ny474.out]; exact HP70.1); clear HP70; have n0_ := Aside0.mk (Kd.R_over' (v := (.slice (some ⟨go10, 0, none⟩) x9_2.length co10)) (qq2 HO_8.out) (Kd.R_typed HO_9.out) (by decide) hg); have n1_ := Aside0.mk (hp_); have n2_ := Aside0.mk (Kd.R_over' (v := (.slice (some ⟨go10, 0, none⟩) x9_2.length co10)) (qq2 HO_30.out) (Kd.R_typed HO_9.out) (by decide) hg); have n3_ := Aside0.mk (blk_grown (g := gb464) (o := .cells #[.int .i64 ((rd_T32 t460 x32_2).f0), .int .i64 ((rd_T32 t460 x32_2).f1), .int .i64 ((rd_T32 t460 x32_2).f2), .int .i64 ((rd_T32 t460 x32_2).f3)] 32 (0, 0)) (qq27 BK464.out) hg (Kd.R_ne HO_9.out BK464.out (by decide))); have n4_ := Aside0.mk ((qq74 : Below w.heap.size w w71)); clear HO_8; clear HO_9; clear HO_30; clear BK464; clear HB; have HO_8 := n0_; have HO_9 := n1_; have HO_30 := n2_; have BK464 := n3_; have HB := n4_; clear n0_ n1_ n2_ n3_ n4_; clear hg hw hp_))
                                                  (try simp only [← hl9_2])
                                                  go_roundg kj24
                                                  case measure => have := HK1.out; have := HK2.out; have := HJ24.out; omega
                                                  case rel => exact ⟨(y473), (y474), (wrap64 (x32_2 + 1)), qq9, H', ⟨qq57⟩, ⟨qq24 HO_8.out⟩, ⟨qq24 HO_9.out⟩, ⟨qq40⟩, ⟨qq4 HB.out GE464.out⟩⟩
                                                · rw [if_neg c61] at H
                                                  exact absurd H (by simp)
                                              · rw [if_neg c60] at H
                                                exact absurd H (by simp)
                                          · rw [if_neg c56] at H
                                            exact absurd H (by simp)
                                        · rw [if_neg c55] at H
                                          exact absurd H (by simp)
                                      · replace c54 := Bool.eq_false_iff.mpr c54
                                        subst c54
                                        have H1 : (impl_TreeHeights.l1 kj24 l1 l2 x8_2 x9_2 (l2.length : Int) x26_1 t460 (t460.length : Int) (wrap64 (x32_2 + 1))) = some (r1, r2) := by rw [if_neg (show ¬ (false = true) by decide)] at H; exact H
                                        clear H
                                        have H := H1
                                        clear H1
                                        have H' := Aside0.mk H
                                        clear H
                                        have hcz72_0 : wc.cell? ⟨gb464, 0, none⟩ = some (.int .i64 ((rd_T32 t460 x32_2).f0)) := (blk_cell BK464.out 0).trans rfl
                                        have hcz72_1 : wc.cell? ⟨gb464, 1, none⟩ = some (.int .i64 ((rd_T32 t460 x32_2).f1)) := (blk_cell BK464.out 1).trans rfl
                                        have hcz72_2 : wc.cell? ⟨gb464, 2, none⟩ = some (.int .i64 ((rd_T32 t460 x32_2).f2)) := (blk_cell BK464.out 2).trans rfl
                                        have hcz72_3 : wc.cell? ⟨gb464, 3, none⟩ = some (.int .i64 ((rd_T32 t460 x32_2).f3)) := (blk_cell BK464.out 3).trans rfl
                                        have hfz72_0 := blk_frozen BK464.out 0
                                        have hfz72_1 := blk_frozen BK464.out 1
                                        have hfz72_2 := blk_frozen BK464.out 2
                                        have hfz72_3 := blk_frozen BK464.out 3
                                        have p470 : 0 ≤ (((rd_T32 t460 x32_2).f1) : Int) := of_decide_eq_true qq3
                                        have q470 : ((rd_T32 t460 x32_2).f1) < (x9_2.length : Int) := of_decide_eq_true qq3
                                        obtain ⟨ad470, e470, hx470_0⟩ := Kd.at_bool (Kd.R_reads' HO_9.out).2.2 ((rd_T32 t460 x32_2).f1) p470 q470
                                        (try rw [← Nbq53.out] at hx470_0)
                                        obtain rfl : (⟨go10, 0, none⟩ : Addr) = ad470 := (by injection e470)
                                        (first | simp only [add_plain] at hx470_0 | simp only [add_at] at hx470_0 | simp only [Addr.add, Nat.zero_add] at hx470_0 | skip)
                                        replace p470 := eq_true p470
                                        replace q470 := eq_true q470
                                        go_wp2
                                        (try simp only [← hl9_2])
                                        go_roundg kj24
                                        case measure => have := HK1.out; have := HK2.out; have := HJ24.out; omega
                                        case rel => exact ⟨(x8_2), (x9_2), (wrap64 (x32_2 + 1)), qq9, H', ⟨qq57⟩, ⟨qq24 HO_8.out⟩, ⟨qq24 HO_9.out⟩, ⟨qq40⟩, ⟨qq4 HB.out GE464.out⟩⟩
                                    · rw [if_neg c52] at H
                                      exact absurd H (by simp)
                                  · rw [if_neg c51] at H
                                    exact absurd H (by simp)
                          · rw [if_neg c24] at H
                            exact absurd H (by simp)
                        · rw [if_neg c23] at H
                          exact absurd H (by simp)
                      · rw [if_neg c22] at H
                        have c22b0 : decide (x32_2 < (t460.length : Int)) = false := decide_eq_false c22
                        clear c22
                        have H' := Aside0.mk H
                        clear H
                        go_wp2
                        (try simp only [← hl9_1, ← hl9_2])
                        go_roundg k2
                        case measure => have := HK1.out; have := HK2.out; omega
                        case rel => exact ⟨(x8_2), (x9_2), (wrap64 (x26_1 + 1)), qq9, H', ⟨qq68 HK1.out HK2.out⟩, ⟨qq24 HO_8.out⟩, ⟨qq24 HO_9.out⟩, ⟨qq1⟩⟩
                · rw [if_neg c18] at H
                  have c18b0 : decide (x26_1 < (l2.length : Int)) = false := decide_eq_false c18
                  clear c18
                  simp only [Option.some.injEq, Prod.mk.injEq] at H
                  obtain ⟨rfl, rfl⟩ := H
                  go_wp2
                  go_ret2
                  exact ⟨_, qq12, qq2 HO_8.out, qq1⟩
          · rw [if_neg c9] at H
            exact absurd H (by simp)
        · rw [if_neg c8] at H
          exact absurd H (by simp)
      · rw [if_neg c7] at H
        exact absurd H (by simp)
    · rw [if_neg c6] at H
      exact absurd H (by simp)
  · replace c5 := Bool.eq_false_iff.mpr c5
    subst c5
    have H1 : (some ((([] : List Int)), false)) = some (r1, r2) := by rw [if_neg (show ¬ (false = true) by decide)] at H; exact H
    clear H
    have H := H1
    clear H1
    obtain ⟨y450, hy450⟩ : ∃ y_ : List Int, y_ = (([] : List Int)) := ⟨_, rfl⟩
    replace H : (some (y450, false)) = some (r1, r2) := by first | (rw [hy450]; with_reducible exact H) | (have H2_ := (Option.bind_some _ _).symm.trans H; rw [hy450]; with_reducible exact H2_) | (have H2_ := (Option.bind_some _ _).symm.trans H; with_reducible exact H2_) | with_reducible exact H | (rw [hy450]; exact H) | exact H
    have Ny450 := Aside0.mk hy450
    clear hy450
    simp only [Option.some.injEq, Prod.mk.injEq] at H
    obtain ⟨rfl, rfl⟩ := H
    go_enter Try.func11, Try.ntmps11
    go_wp2_with (first | ((with_reducible refine gate_callee (f := 28) rfl ?_); refine goesL_ (some 15) rfl rfl Try.func28 (by kernel_rfl) rfl #[.int .i64 a0, .slice A1 l1.length c1, .slice A2 l2.length c2] rfl qq5 ?_; (with_reducible refine (impl_TreeIs.calls k a0 _ _ l1 _ _ l2 false _ ?side1 ?side2 ?side3 ?side4 A4.out).mono ?_); (case side1 => exact qq15 HR1.out); (case side2 => exact HC1.out); (case side3 => exact qq15 HR2.out); (case side4 => exact HC2.out); rintro e w73 ⟨rfl, hb⟩; refine ⟨_, rfl, ?_⟩; have n0_ := Aside0.mk (below_step qq1 hb); clear HB; have HB := n0_; clear n0_; (try clear hb); (try clear hb2); (try clear hk); (try clear hi)) | ((with_reducible refine gate_dst (N := 17) rfl ?_); refine Kd.R_lit (Kd.int .i64) _ 3 ?hg (N := 17) ?hd (xs := ([] : List Int)) (inner := []) (ok := fun _ => True) (okp := fun _ => True) ?hr ?hp (fun _ hk => hk) trivial (Below.refl _ _) (Nat.le_refl _) (by simp) ?_; (case hd => rfl); (case hg => rfl); (case hr => exact qq17); (case hp => exact (Reps.none _ _)); intro v451 w74 ho75 hb hg_ hnew_; clear hg_ hnew_; (first | rw [← Ny450.out] at ho75 | (simp only [Int.reduceToNat] at ho75; rw [← Ny450.out] at ho75)); have n0_ := Aside0.mk (Kd.R_lower ho75 (below_size qq1)); have n1_ := Aside0.mk (below_step qq1 hb); clear HB; have HO452 := n0_; have HB := n1_; clear n0_ n1_; clear hb ho75))
    go_ret2
    exact ⟨_, qq12, qq2 HO452.out, qq1⟩

end Go.Proofs.Ytmcfhmflncghiaa.Q
namespace Go.Proofs.Ytmcfhmflncghiaa.Q
open Go.RowKit Go.Proofs.YtmcfhmflncghiaaW.PrintWords Go.Proofs.YtmcfhmflncghiaaW.PrintLast Go.Proofs.YtmcfhmflncghiaaW.PrintMore
attribute [local go_sem] max2_int min2_int max_two min_two max_three min_three max_four min_four
set_option linter.unusedVariables false
set_option linter.unusedSimpArgs false

/-! ### spec_l12Some: function 66 -/
/-! ### spec_l13Has: function 54 -/
/-! ### spec_l13Error: function 34 -/
/-! ### impl_heightsValid: function 29 -/
def impl_heightsValid.l0 : Nat → List Int → Int → Int → Option (Bool)
  | 0, _, _, _ => none
  | k + 1, x11, x12, x13 => if x13 < x12 then (if 0 ≤ x13 then (if x13 < (x11.length : Int) then ((impl_within.f (rd x11 x13) 1000000).bind fun t476 => (if t476 = true then (impl_heightsValid.l0 k x11 x12 (wrap64 (x13 + 1))) else (some false))) else (none)) else (none)) else (some true)
def impl_heightsValid.f (k : Nat) (a0 : Int) (l1 : List Int) : Option (Bool) := if (l1.length : Int) = a0 then (impl_heightsValid.l0 k l1 (l1.length : Int) 0) else (some false)
set_option maxHeartbeats 8000000 in
set_option maxRecDepth 100000 in
theorem impl_heightsValid.calls (k : Nat) (a0 : Int) (A1 : Option Addr) (c1 : Nat) (l1 : List Int) (r : Bool) (w : World) (hr1 : Kd.C (Kd.int .i64) w A1 l1.length l1) (hc1 : l1.length ≤ c1) (h : impl_heightsValid.f k a0 l1 = some r) :
    Calls Try.prog 29 #[.int .i64 a0, .slice A1 l1.length c1] w fun e w' => e = .returned (.bool r) ∧ Drawn0 w w' := by
  have HR1 := Aside0.mk hr1
  have HC1 := Aside0.mk hc1
  clear hr1 hc1
  have H : (if (l1.length : Int) = a0 then (impl_heightsValid.l0 k l1 (l1.length : Int) 0) else (some false)) = some r := h
  clear h
  by_cases c3 : (l1.length : Int) = a0
  · rw [if_pos c3] at H
    have c3b0 : ((l1.length : Int) == a0) = true := beq_iff_eq.mpr c3
    have c3b1 : ((l1.length : Int) != a0) = false := bne_eq_false_iff_eq.mpr c3
    clear c3
    have H' := Aside0.mk H
    clear H
    go_enter Try.func29, Try.ntmps29
    go_wp2
    go_loopg [13] k (fun kq v13 w' => ∃ (x13_1 : Int), v13 = .int .i64 x13_1 ∧ Aside0 (impl_heightsValid.l0 kq l1 (l1.length : Int) x13_1 = some r) ∧ Aside0 (kq ≤ k) ∧ Drawn0 w w')
    case atStart => exact ⟨(0), qq9, H', ⟨Nat.le_refl _⟩, qq16⟩
    case round =>
      clear H'
      try clear c1
      try clear c2
      try clear p2
      try clear c3
      try clear c3b0
      try clear c3b1
      obtain ⟨x13_1, rfl, HA, HK1, ⟨m1, rfl⟩⟩ := hrel
      cases gk with
      | zero => exact absurd HA.out (by simp [impl_heightsValid.l0])
      | succ k1 =>
        have H := HA.out
        clear HA
        simp only [impl_heightsValid.l0] at H
        by_cases c4 : x13_1 < (l1.length : Int)
        · rw [if_pos c4] at H
          have c4b0 : decide (x13_1 < (l1.length : Int)) = true := decide_eq_true c4
          clear c4
          by_cases c5 : 0 ≤ x13_1
          · rw [if_pos c5] at H
            have c5b0 : decide (0 ≤ x13_1) = true := decide_eq_true c5
            clear c5
            by_cases c6 : x13_1 < (l1.length : Int)
            · rw [if_pos c6] at H
              have c6b0 : decide (x13_1 < (l1.length : Int)) = true := decide_eq_true c6
              clear c6
              replace H := Option.bind_eq_some_iff.mp H
              obtain ⟨t476, A70, H⟩ := H
              replace H : (if t476 = true then (impl_heightsValid.l0 k1 l1 (l1.length : Int) (wrap64 (x13_1 + 1))) else (some false)) = some r := H
              have A7 := Aside0.mk A70
              clear A70
              by_cases c8 : t476 = true
              · subst c8
                have H1 : (impl_heightsValid.l0 k1 l1 (l1.length : Int) (wrap64 (x13_1 + 1))) = some r := by rw [if_pos rfl] at H; exact H
                clear H
                have H := H1
                clear H1
                have H' := Aside0.mk H
                clear H
                have p475 : 0 ≤ (x13_1 : Int) := of_decide_eq_true qq3
                have q475 : x13_1 < (l1.length : Int) := of_decide_eq_true qq3
                obtain ⟨ad475, e475, hx475_0⟩ := Kd.at_int HR1.out x13_1 p475 q475
                cases e475
                replace p475 := eq_true p475
                replace q475 := eq_true q475
                go_wp2_with (first | ((with_reducible refine gate_callee (f := 37) rfl ?_); refine goesL_ (some 18) rfl rfl Try.func37 (by kernel_rfl) rfl #[.int .i64 (rd l1 x13_1), .int .i64 1000000] rfl qq5 ?_; (with_reducible refine (impl_within.calls (rd l1 x13_1) 1000000 true _ A7.out).mono ?_); rintro e w' ⟨rfl, ⟨nd, rfl⟩⟩; refine ⟨_, rfl, ?_⟩))
                go_roundg k1
                case measure => have := HK1.out; omega
                case rel => exact ⟨(wrap64 (x13_1 + 1)), qq9, H', ⟨by have := HK1.out; omega⟩, qq16⟩
              · replace c8 := Bool.eq_false_iff.mpr c8
                subst c8
                have H1 : (some false) = some r := by rw [if_neg (show ¬ (false = true) by decide)] at H; exact H
                clear H
                have H := H1
                clear H1
                obtain rfl := Option.some.inj H
                have p475 : 0 ≤ (x13_1 : Int) := of_decide_eq_true qq3
                have q475 : x13_1 < (l1.length : Int) := of_decide_eq_true qq3
                obtain ⟨ad475, e475, hx475_0⟩ := Kd.at_int HR1.out x13_1 p475 q475
                cases e475
                replace p475 := eq_true p475
                replace q475 := eq_true q475
                go_wp2_with (first | ((with_reducible refine gate_callee (f := 37) rfl ?_); refine goesL_ (some 18) rfl rfl Try.func37 (by kernel_rfl) rfl #[.int .i64 (rd l1 x13_1), .int .i64 1000000] rfl qq5 ?_; (with_reducible refine (impl_within.calls (rd l1 x13_1) 1000000 false _ A7.out).mono ?_); rintro e w' ⟨rfl, ⟨nd, rfl⟩⟩; refine ⟨_, rfl, ?_⟩))
                go_ret
                exact ⟨qq9, qq16⟩
            · rw [if_neg c6] at H
              exact absurd H (by simp)
          · rw [if_neg c5] at H
            exact absurd H (by simp)
        · rw [if_neg c4] at H
          have c4b0 : decide (x13_1 < (l1.length : Int)) = false := decide_eq_false c4
          clear c4
          obtain rfl := Option.some.inj H
          go_wp2
          go_ret
          exact ⟨qq9, qq16⟩
  · rw [if_neg c3] at H
    have c3b0 : ((l1.length : Int) == a0) = false := beq_eq_false_iff_ne.mpr c3
    have c3b1 : ((l1.length : Int) != a0) = true := bne_iff_ne.mpr c3
    obtain rfl := Option.some.inj H
    go_enter Try.func29, Try.ntmps29
    go_wp2
    go_ret
    exact ⟨qq9, qq16⟩

end Go.Proofs.Ytmcfhmflncghiaa.Q
namespace Go.Proofs.Ytmcfhmflncghiaa.Q
open Go.RowKit Go.Proofs.YtmcfhmflncghiaaW.PrintWords Go.Proofs.YtmcfhmflncghiaaW.PrintLast Go.Proofs.YtmcfhmflncghiaaW.PrintMore
attribute [local go_sem] max2_int min2_int max_two min_two max_three min_three max_four min_four
set_option linter.unusedVariables false
set_option linter.unusedSimpArgs false

/-! ### impl_NetFits: function 12 -/
mutual
def impl_NetFits.j0 : Nat → List (S32) → List Int → Bool → Option (Bool)
  | 0, _, _, _ => none
  | k + 1, x1, x2, x18 => if x18 = true then (some false) else (impl_NetFits.l0 k x2 x1 (x1.length : Int) 0)
def impl_NetFits.l0 : Nat → List Int → List (S32) → Int → Int → Option (Bool)
  | 0, _, _, _, _ => none
  | k + 1, x2, x19, x20, x21 => if x21 < x20 then (if 0 ≤ x21 then (if x21 < (x19.length : Int) then (if 0 ≤ ((rd_T32 x19 x21).f1) then (if ((rd_T32 x19 x21).f1) < (x2.length : Int) then (if 0 ≤ ((rd_T32 x19 x21).f0) then (if ((rd_T32 x19 x21).f0) < (x2.length : Int) then (if (wrap64 ((rd x2 ((rd_T32 x19 x21).f1)) - (rd x2 ((rd_T32 x19 x21).f0)))) = ((rd_T32 x19 x21).f2) then (impl_NetFits.l0 k x2 x19 x20 (wrap64 (x21 + 1))) else (some false)) else (none)) else (none)) else (none)) else (none)) else (none)) else (none)) else (some true)
end
def impl_NetFits.f (k : Nat) (a0 : Int) (l1 : List (S32)) (l2 : List Int) : Option (Bool) := (impl_NetValid.f k a0 l1).bind fun t477 => (if t477 = true then ((impl_heightsValid.f k a0 l2).bind fun t478 => (impl_NetFits.j0 k l1 l2 (!t478))) else (impl_NetFits.j0 k l1 l2 true))
set_option maxHeartbeats 8000000 in
set_option maxRecDepth 100000 in
theorem impl_NetFits.calls (k : Nat) (a0 : Int) (A1 : Option Addr) (c1 : Nat) (l1 : List (S32)) (A2 : Option Addr) (c2 : Nat) (l2 : List Int) (r : Bool) (w : World) (hr1 : Kd.C k32 w A1 l1.length l1) (hc1 : l1.length ≤ c1) (hr2 : Kd.C (Kd.int .i64) w A2 l2.length l2) (hc2 : l2.length ≤ c2) (h : impl_NetFits.f k a0 l1 l2 = some r) :
    Calls Try.prog 12 #[.int .i64 a0, .slice A1 l1.length c1, .slice A2 l2.length c2] w fun e w' => e = .returned (.bool r) ∧ Below w.heap.size w w' := by
  have hu32 := Try.underlying32
  have HR1 := Aside0.mk hr1
  have HC1 := Aside0.mk hc1
  clear hr1 hc1
  have HR2 := Aside0.mk hr2
  have HC2 := Aside0.mk hc2
  clear hr2 hc2
  have HB := Aside0.mk (Below.refl w.heap.size w)
  have H : ((impl_NetValid.f k a0 l1).bind fun t477 => (if t477 = true then ((impl_heightsValid.f k a0 l2).bind fun t478 => (impl_NetFits.j0 k l1 l2 (!t478))) else (impl_NetFits.j0 k l1 l2 true))) = some r := h
  clear h
  have HC4 := Aside0.mk H
  clear H
  go_enter Try.func12, Try.ntmps12
  go_upto_region 1 with (fail)
  repeat (go_quiet (fail); go_upto_region 1 with (fail))
  go_cut [18] (fun v18 wc => ∃ (kq : Nat) (x18_3 : Bool), v18 = .bool x18_3 ∧ Aside0 (impl_NetFits.j0 kq l1 l2 x18_3 = some r) ∧ Aside0 (kq ≤ k) ∧ Aside0 (Below w.heap.size w wc))
  case first =>
    have H := HC4.out
    clear HC4
    replace H := Option.bind_eq_some_iff.mp H
    obtain ⟨t477, A50, H⟩ := H
    replace H : (if t477 = true then ((impl_heightsValid.f k a0 l2).bind fun t478 => (impl_NetFits.j0 k l1 l2 (!t478))) else (impl_NetFits.j0 k l1 l2 true)) = some r := H
    have A5 := Aside0.mk A50
    clear A50
    by_cases c6 : t477 = true
    · subst c6
      have H1 : ((impl_heightsValid.f k a0 l2).bind fun t478 => (impl_NetFits.j0 k l1 l2 (!t478))) = some r := by rw [if_pos rfl] at H; exact H
      clear H
      have H := H1
      clear H1
      replace H := Option.bind_eq_some_iff.mp H
      obtain ⟨t478, A70, H⟩ := H
      replace H : (impl_NetFits.j0 k l1 l2 (!t478)) = some r := H
      have A7 := Aside0.mk A70
      clear A70
      have H' := Aside0.mk H
      clear H
      go_wp2_with (first | (go_at_call 23; (with_reducible refine (impl_NetValid.calls k a0 _ _ l1 true _ ?side1 ?side2 A5.out).mono ?_); (case side1 => exact qq44); (case side2 => exact HC1.out); rintro e w8 ⟨rfl, hb⟩; have n0_ := Aside0.mk (below_step qq1 hb); clear HB; have HB := n0_; clear n0_; (try clear hb); (try clear hb2); (try clear hk); (try clear hi)) | (go_at_call 29; (with_reducible refine (impl_heightsValid.calls k a0 _ _ l2 t478 _ ?side1 ?side2 A7.out).mono ?_); (case side1 => exact qq13 HR2.out HB.out); (case side2 => exact HC2.out); rintro e w' ⟨rfl, ⟨nd, rfl⟩⟩; (try first | exact ⟨rfl, _, World.drewN_drewN _ _ _⟩ | exact ⟨rfl, _, Eq.trans (World.drewN_drewN _ _ _) (congrArg (World.drewN _) (Nat.add_assoc _ _ _))⟩)))
      repeat (go_quiet (first | (go_at_call 23; (with_reducible refine (impl_NetValid.calls k a0 _ _ l1 true _ ?side1 ?side2 A5.out).mono ?_); (case side1 => exact qq44); (case side2 => exact HC1.out); rintro e w8 ⟨rfl, hb⟩; have n0_ := Aside0.mk (below_step qq1 hb); clear HB; have HB := n0_; clear n0_; (try clear hb); (try clear hb2); (try clear hk); (try clear hi)) | (go_at_call 29; (with_reducible refine (impl_heightsValid.calls k a0 _ _ l2 t478 _ ?side1 ?side2 A7.out).mono ?_); (case side1 => exact qq13 HR2.out HB.out); (case side2 => exact HC2.out); rintro e w' ⟨rfl, ⟨nd, rfl⟩⟩; (try first | exact ⟨rfl, _, World.drewN_drewN _ _ _⟩ | exact ⟨rfl, _, Eq.trans (World.drewN_drewN _ _ _) (congrArg (World.drewN _) (Nat.add_assoc _ _ _))⟩))); try go_wp2_with (first | (go_at_call 23; (with_reducible refine (impl_NetValid.calls k a0 _ _ l1 true _ ?side1 ?side2 A5.out).mono ?_); (case side1 => exact qq44); (case side2 => exact HC1.out); rintro e w8 ⟨rfl, hb⟩; have n0_ := Aside0.mk (below_step qq1 hb); clear HB; have HB := n0_; clear n0_; (try clear hb); (try clear hb2); (try clear hk); (try clear hi)) | (go_at_call 29; (with_reducible refine (impl_heightsValid.calls k a0 _ _ l2 t478 _ ?side1 ?side2 A7.out).mono ?_); (case side1 => exact qq13 HR2.out HB.out); (case side2 => exact HC2.out); rintro e w' ⟨rfl, ⟨nd, rfl⟩⟩; (try first | exact ⟨rfl, _, World.drewN_drewN _ _ _⟩ | exact ⟨rfl, _, Eq.trans (World.drewN_drewN _ _ _) (congrArg (World.drewN _) (Nat.add_assoc _ _ _))⟩))))
      go_meet
      case rel => exact ⟨_, (!t478), qq9, H', ⟨qq29⟩, ⟨qq1⟩⟩
    · replace c6 := Bool.eq_false_iff.mpr c6
      subst c6
      have H1 : (impl_NetFits.j0 k l1 l2 true) = some r := by rw [if_neg (show ¬ (false = true) by decide)] at H; exact H
      clear H
      have H := H1
      clear H1
      have H' := Aside0.mk H
      clear H
      go_wp2_with (first | (go_at_call 23; (with_reducible refine (impl_NetValid.calls k a0 _ _ l1 false _ ?side1 ?side2 A5.out).mono ?_); (case side1 => exact qq44); (case side2 => exact HC1.out); rintro e w9 ⟨rfl, hb⟩; have n0_ := Aside0.mk (below_step qq1 hb); clear HB; have HB := n0_; clear n0_; (try clear hb); (try clear hb2); (try clear hk); (try clear hi)))
      repeat (go_quiet (first | (go_at_call 23; (with_reducible refine (impl_NetValid.calls k a0 _ _ l1 false _ ?side1 ?side2 A5.out).mono ?_); (case side1 => exact qq44); (case side2 => exact HC1.out); rintro e w9 ⟨rfl, hb⟩; have n0_ := Aside0.mk (below_step qq1 hb); clear HB; have HB := n0_; clear n0_; (try clear hb); (try clear hb2); (try clear hk); (try clear hi))); try go_wp2_with (first | (go_at_call 23; (with_reducible refine (impl_NetValid.calls k a0 _ _ l1 false _ ?side1 ?side2 A5.out).mono ?_); (case side1 => exact qq44); (case side2 => exact HC1.out); rintro e w9 ⟨rfl, hb⟩; have n0_ := Aside0.mk (below_step qq1 hb); clear HB; have HB := n0_; clear n0_; (try clear hb); (try clear hb2); (try clear hk); (try clear hi))))
      go_meet
      case rel => exact ⟨_, (true), qq9, H', ⟨qq29⟩, ⟨qq1⟩⟩
  case rest =>
    clear HC4
    try clear c1
    try clear c2
    try clear p2
    try clear c6
    obtain ⟨kq, x18_3, rfl, HA, HJ3, HB⟩ := hcut
    cases kq with
    | zero => exact absurd HA.out (by simp [impl_NetFits.j0])
    | succ kj3 =>
      have H := HA.out
      clear HA
      simp only [impl_NetFits.j0] at H
      by_cases c10 : x18_3 = true
      · subst c10
        have H1 : (some false) = some r := by rw [if_pos rfl] at H; exact H
        clear H
        have H := H1
        clear H1
        obtain rfl := Option.some.inj H
        go_wp2
        repeat (go_quiet (fail); try go_wp2)
        go_ret
        exact ⟨qq12, qq1⟩
      · replace c10 := Bool.eq_false_iff.mpr c10
        subst c10
        have H1 : (impl_NetFits.l0 kj3 l2 l1 (l1.length : Int) 0) = some r := by rw [if_neg (show ¬ (false = true) by decide)] at H; exact H
        clear H
        have H := H1
        clear H1
        have H' := Aside0.mk H
        clear H
        go_wp2
        repeat (go_quiet (fail); try go_wp2)
        go_loopg [21] kj3 (fun kq v21 w' => ∃ (x21_2 : Int), v21 = .int .i64 x21_2 ∧ Aside0 (impl_NetFits.l0 kq l2 l1 (l1.length : Int) x21_2 = some r) ∧ Aside0 (kq ≤ kj3) ∧ Aside0 (Below w.heap.size w w'))
        case atStart => exact ⟨(0), qq9, H', ⟨Nat.le_refl _⟩, ⟨qq1⟩⟩
        case round =>
          clear H'
          try clear c1
          try clear c2
          try clear p2
          try clear c6
          try clear c10
          try clear p2
          obtain ⟨x21_2, rfl, HA, HK2, HB⟩ := hrel
          cases gk with
          | zero => exact absurd HA.out (by simp [impl_NetFits.l0])
          | succ k2 =>
            have H := HA.out
            clear HA
            simp only [impl_NetFits.l0] at H
            by_cases c11 : x21_2 < (l1.length : Int)
            · rw [if_pos c11] at H
              have c11b0 : decide (x21_2 < (l1.length : Int)) = true := decide_eq_true c11
              clear c11
              by_cases c12 : 0 ≤ x21_2
              · rw [if_pos c12] at H
                have c12b0 : decide (0 ≤ x21_2) = true := decide_eq_true c12
                clear c12
                by_cases c13 : x21_2 < (l1.length : Int)
                · rw [if_pos c13] at H
                  have c13b0 : decide (x21_2 < (l1.length : Int)) = true := decide_eq_true c13
                  clear c13
                  by_cases c14 : 0 ≤ ((rd_T32 l1 x21_2).f1)
                  · rw [if_pos c14] at H
                    have c14b0 : decide (0 ≤ ((rd_T32 l1 x21_2).f1)) = true := decide_eq_true c14
                    clear c14
                    by_cases c15 : ((rd_T32 l1 x21_2).f1) < (l2.length : Int)
                    · rw [if_pos c15] at H
                      have c15b0 : decide (((rd_T32 l1 x21_2).f1) < (l2.length : Int)) = true := decide_eq_true c15
                      clear c15
                      by_cases c16 : 0 ≤ ((rd_T32 l1 x21_2).f0)
                      · rw [if_pos c16] at H
                        have c16b0 : decide (0 ≤ ((rd_T32 l1 x21_2).f0)) = true := decide_eq_true c16
                        clear c16
                        by_cases c17 : ((rd_T32 l1 x21_2).f0) < (l2.length : Int)
                        · rw [if_pos c17] at H
                          have c17b0 : decide (((rd_T32 l1 x21_2).f0) < (l2.length : Int)) = true := decide_eq_true c17
                          clear c17
                          by_cases c18 : (wrap64 ((rd l2 ((rd_T32 l1 x21_2).f1)) - (rd l2 ((rd_T32 l1 x21_2).f0)))) = ((rd_T32 l1 x21_2).f2)
                          · rw [if_pos c18] at H
                            have c18b0 : ((wrap64 ((rd l2 ((rd_T32 l1 x21_2).f1)) - (rd l2 ((rd_T32 l1 x21_2).f0)))) == ((rd_T32 l1 x21_2).f2)) = true := beq_iff_eq.mpr c18
                            have c18b1 : ((wrap64 ((rd l2 ((rd_T32 l1 x21_2).f1)) - (rd l2 ((rd_T32 l1 x21_2).f0)))) != ((rd_T32 l1 x21_2).f2)) = false := bne_eq_false_iff_eq.mpr c18
                            clear c18
                            have H' := Aside0.mk H
                            clear H
                            have p479 : 0 ≤ (x21_2 : Int) := of_decide_eq_true qq3
                            have q479 : x21_2 < (l1.length : Int) := of_decide_eq_true qq3
                            obtain ⟨ad479, e479, hx479_0, hx479_1, hx479_2, hx479_3⟩ := at_T32 HR1.out x21_2 p479 q479
                            cases e479
                            replace hx479_0 := (HB.out.cell (World.block_lt_of_cell? w _ hx479_0)).trans hx479_0
                            replace hx479_1 := (HB.out.cell (World.block_lt_of_cell? w _ hx479_1)).trans hx479_1
                            replace hx479_2 := (HB.out.cell (World.block_lt_of_cell? w _ hx479_2)).trans hx479_2
                            replace hx479_3 := (HB.out.cell (World.block_lt_of_cell? w _ hx479_3)).trans hx479_3
                            replace p479 := eq_true p479
                            replace q479 := eq_true q479
                            go_wp2_with (first | ((with_reducible refine gate_dst (N := 8) rfl ?_); refine box_event ?hg (N := 8) ?hd (cs := #[.int .i64 0, .int .i64 0, .int .i64 0, .int .i64 0]) (t := 32) ?hr ?_; (case hd => rfl); (case hg => rfl); (case hr => exact qq17); intro gb480 hg w19 hbox hb; have n0_ := Aside0.mk (below_step qq1 hb); have n1_ := Aside0.mk (hbox); have n2_ := Aside0.mk ((qq36 : w.heap.size ≤ gb480)); have n3_ := Aside0.mk ((qq36 : w.heap.size ≤ gb480)); clear HB; have HB := n0_; have BK480 := n1_; have GW480 := n2_; have GE480 := n3_; clear n0_ n1_ n2_ n3_; clear hb hbox hg; have hcz20_0 : w19.cell? ⟨gb480, 0, none⟩ = some (.int .i64 0) := (blk_cell BK480.out 0).trans rfl; have hcz20_1 : w19.cell? ⟨gb480, 1, none⟩ = some (.int .i64 0) := (blk_cell BK480.out 1).trans rfl; have hcz20_2 : w19.cell? ⟨gb480, 2, none⟩ = some (.int .i64 0) := (blk_cell BK480.out 2).trans rfl; have hcz20_3 : w19.cell? ⟨gb480, 3, none⟩ = some (.int .i64 0) := (blk_cell BK480.out 3).trans rfl; have hfz20_0 := blk_frozen BK480.out 0; have hfz20_1 := blk_frozen BK480.out 1; have hfz20_2 := blk_frozen BK480.out 2; have hfz20_3 := blk_frozen BK480.out 3; have p481 : 0 ≤ (((rd_T32 l1 x21_2).f1) : Int) := of_decide_eq_true qq3; have q481 : ((rd_T32 l1 x21_2).f1) < (l2.length : Int) := of_decide_eq_true qq3; obtain ⟨ad481, e481, hx481_0⟩ := Kd.at_int HR2.out ((rd_T32 l1 x21_2).f1) p481 q481; cases e481; have hn481_0 : ad481.block ≠ gb480 := Nat.ne_of_lt (Nat.lt_of_lt_of_le qq19 GW480.out); have hn481_1 : ad481.block ≠ gb480 := Nat.ne_of_lt (Nat.lt_of_lt_of_le qq19 GW480.out); have hn481_2 : ad481.block ≠ gb480 := Nat.ne_of_lt (Nat.lt_of_lt_of_le qq19 GW480.out); have hn481_3 : ad481.block ≠ gb480 := Nat.ne_of_lt (Nat.lt_of_lt_of_le qq19 GW480.out); replace hx481_0 := (HB.out.cell (World.block_lt_of_cell? w _ hx481_0)).trans hx481_0; replace hx481_0 := (cell_far (p := ⟨gb480, 0, none⟩) qq31 (.int .i64 ((rd_T32 l1 x21_2).f0))).trans hx481_0; replace hx481_0 := (cell_far (p := ⟨gb480, 1, none⟩) qq32 (.int .i64 ((rd_T32 l1 x21_2).f1))).trans hx481_0; replace hx481_0 := (cell_far (p := ⟨gb480, 2, none⟩) qq33 (.int .i64 ((rd_T32 l1 x21_2).f2))).trans hx481_0; replace hx481_0 := (cell_far (p := ⟨gb480, 3, none⟩) qq34 (.int .i64 ((rd_T32 l1 x21_2).f3))).trans hx481_0; (try have hy481_0 := fun (n_ : Nat) => (show ((((((w19.drewN n_).setCell ⟨gb480, 0, none⟩ (.int .i64 ((rd_T32 l1 x21_2).f0))).setCell ⟨gb480, 1, none⟩ (.int .i64 ((rd_T32 l1 x21_2).f1))).setCell ⟨gb480, 2, none⟩ (.int .i64 ((rd_T32 l1 x21_2).f2))).setCell ⟨gb480, 3, none⟩ (.int .i64 ((rd_T32 l1 x21_2).f3)))).cell? _ = some _ from hx481_0)); clear hn481_0; clear hn481_1; clear hn481_2; clear hn481_3; replace p481 := eq_true p481; replace q481 := eq_true q481; have p482 : 0 ≤ (((rd_T32 l1 x21_2).f0) : Int) := of_decide_eq_true qq3; have q482 : ((rd_T32 l1 x21_2).f0) < (l2.length : Int) := of_decide_eq_true qq3; obtain ⟨ad482, e482, hx482_0⟩ := Kd.at_int HR2.out ((rd_T32 l1 x21_2).f0) p482 q482; obtain rfl : ad481 = ad482 := (by injection e482); have hn482_0 : ad481.block ≠ gb480 := Nat.ne_of_lt (Nat.lt_of_lt_of_le qq20 GW480.out); have hn482_1 : ad481.block ≠ gb480 := Nat.ne_of_lt (Nat.lt_of_lt_of_le qq20 GW480.out); have hn482_2 : ad481.block ≠ gb480 := Nat.ne_of_lt (Nat.lt_of_lt_of_le qq20 GW480.out); have hn482_3 : ad481.block ≠ gb480 := Nat.ne_of_lt (Nat.lt_of_lt_of_le qq20 GW480.out); replace hx482_0 := (HB.out.cell (World.block_lt_of_cell? w _ hx482_0)).trans hx482_0; replace hx482_0 := (cell_far (p := ⟨gb480, 0, none⟩) qq35 (.int .i64 ((rd_T32 l1 x21_2).f0))).trans hx482_0; replace hx482_0 := (cell_far (p := ⟨gb480, 1, none⟩) qq37 (.int .i64 ((rd_T32 l1 x21_2).f1))).trans hx482_0; replace hx482_0 := (cell_far (p := ⟨gb480, 2, none⟩) qq38 (.int .i64 ((rd_T32 l1 x21_2).f2))).trans hx482_0; replace hx482_0 := (cell_far (p := ⟨gb480, 3, none⟩) qq39 (.int .i64 ((rd_T32 l1 x21_2).f3))).trans hx482_0; (try have hy482_0 := fun (n_ : Nat) => (show ((((((w19.drewN n_).setCell ⟨gb480, 0, none⟩ (.int .i64 ((rd_T32 l1 x21_2).f0))).setCell ⟨gb480, 1, none⟩ (.int .i64 ((rd_T32 l1 x21_2).f1))).setCell ⟨gb480, 2, none⟩ (.int .i64 ((rd_T32 l1 x21_2).f2))).setCell ⟨gb480, 3, none⟩ (.int .i64 ((rd_T32 l1 x21_2).f3)))).cell? _ = some _ from hx482_0)); clear hn482_0; clear hn482_1; clear hn482_2; clear hn482_3; replace p482 := eq_true p482; replace q482 := eq_true q482))
                            repeat (go_quiet (first | ((with_reducible refine gate_dst (N := 8) rfl ?_); refine box_event ?hg (N := 8) ?hd (cs := #[.int .i64 0, .int .i64 0, .int .i64 0, .int .i64 0]) (t := 32) ?hr ?_; (case hd => rfl); (case hg => rfl); (case hr => exact qq17); intro gb480 hg w19 hbox hb; have n0_ := Aside0.mk (below_step qq1 hb); have n1_ := Aside0.mk (hbox); have n2_ := Aside0.mk ((qq36 : w.heap.size ≤ gb480)); have n3_ := Aside0.mk ((qq36 : w.heap.size ≤ gb480)); clear HB; have HB := n0_; have BK480 := n1_; have GW480 := n2_; have GE480 := n3_; clear n0_ n1_ n2_ n3_; clear hb hbox hg; have hcz20_0 : w19.cell? ⟨gb480, 0, none⟩ = some (.int .i64 0) := (blk_cell BK480.out 0).trans rfl; have hcz20_1 : w19.cell? ⟨gb480, 1, none⟩ = some (.int .i64 0) := (blk_cell BK480.out 1).trans rfl; have hcz20_2 : w19.cell? ⟨gb480, 2, none⟩ = some (.int .i64 0) := (blk_cell BK480.out 2).trans rfl; have hcz20_3 : w19.cell? ⟨gb480, 3, none⟩ = some (.int .i64 0) := (blk_cell BK480.out 3).trans rfl; have hfz20_0 := blk_frozen BK480.out 0; have hfz20_1 := blk_frozen BK480.out 1; have hfz20_2 := blk_frozen BK480.out 2; have hfz20_3 := blk_frozen BK480.out 3; have p481 : 0 ≤ (((rd_T32 l1 x21_2).f1) : Int) := of_decide_eq_true qq3; have q481 : ((rd_T32 l1 x21_2).f1) < (l2.length : Int) := of_decide_eq_true qq3; obtain ⟨ad481, e481, hx481_0⟩ := Kd.at_int HR2.out ((rd_T32 l1 x21_2).f1) p481 q481; cases e481; have hn481_0 : ad481.block ≠ gb480 := Nat.ne_of_lt (Nat.lt_of_lt_of_le qq19 GW480.out); have hn481_1 : ad481.block ≠ gb480 := Nat.ne_of_lt (Nat.lt_of_lt_of_le qq19 GW480.out); have hn481_2 : ad481.block ≠ gb480 := Nat.ne_of_lt (Nat.lt_of_lt_of_le qq19 GW480.out); have hn481_3 : ad481.block ≠ gb480 := Nat.ne_of_lt (Nat.lt_of_lt_of_le qq19 GW480.out); replace hx481_0 := (HB.out.cell (World.block_lt_of_cell? w _ hx481_0)).trans hx481_0; replace hx481_0 := (cell_far (p := ⟨gb480, 0, none⟩) qq31 (.int .i64 ((rd_T32 l1 x21_2).f0))).trans hx481_0; replace hx481_0 := (cell_far (p := ⟨gb480, 1, none⟩) qq32 (.int .i64 ((rd_T32 l1 x21_2).f1))).trans hx481_0; replace hx481_0 := (cell_far (p := ⟨gb480, 2, none⟩) qq33 (.int .i64 ((rd_T32 l1 x21_2).f2))).trans hx481_0; replace hx481_0 := (cell_far (p := ⟨gb480, 3, none⟩) qq34 (.int .i64 ((rd_T32 l1 x21_2).f3))).trans hx481_0; (try have hy481_0 := fun (n_ : Nat) => (show ((((((w19.drewN n_).setCell ⟨gb480, 0, none⟩ (.int .i64 ((rd_T32 l1 x21_2).f0))).setCell ⟨gb480, 1, none⟩ (.int .i64 ((rd_T32 l1 x21_2).f1))).setCell ⟨gb480, 2, none⟩ (.int .i64 ((rd_T32 l1 x21_2).f2))).setCell ⟨gb480, 3, none⟩ (.int .i64 ((rd_T32 l1 x21_2).f3)))).cell? _ = some _ from hx481_0)); clear hn481_0; clear hn481_1; clear hn481_2; clear hn481_3; replace p481 := eq_true p481; replace q481 := eq_true q481; have p482 : 0 ≤ (((rd_T32 l1 x21_2).f0) : Int) := of_decide_eq_true qq3; have q482 : ((rd_T32 l1 x21_2).f0) < (l2.length : Int) := of_decide_eq_true qq3; obtain ⟨ad482, e482, hx482_0⟩ := Kd.at_int HR2.out ((rd_T32 l1 x21_2).f0) p482 q482; obtain rfl : ad481 = ad482 := (by injection e482); have hn482_0 : ad481.block ≠ gb480 := Nat.ne_of_lt (Nat.lt_of_lt_of_le qq20 GW480.out); have hn482_1 : ad481.block ≠ gb480 := Nat.ne_of_lt (Nat.lt_of_lt_of_le qq20 GW480.out); have hn482_2 : ad481.block ≠ gb480 := Nat.ne_of_lt (Nat.lt_of_lt_of_le qq20 GW480.out); have hn482_3 : ad481.block ≠ gb480 := Nat.ne_of_lt (Nat.lt_of_lt_of_le qq20 GW480.out); replace hx482_0 := (HB.out.cell (World.block_lt_of_cell? w _ hx482_0)).trans hx482_0; replace hx482_0 := (cell_far (p := ⟨gb480, 0, none⟩) qq35 (.int .i64 ((rd_T32 l1 x21_2).f0))).trans hx482_0; replace hx482_0 := (cell_far (p := ⟨gb480, 1, none⟩) qq37 (.int .i64 ((rd_T32 l1 x21_2).f1))).trans hx482_0; replace hx482_0 := (cell_far (p := ⟨gb480, 2, none⟩) qq38 (.int .i64 ((rd_T32 l1 x21_2).f2))).trans hx482_0; replace hx482_0 := (cell_far (p := ⟨gb480, 3, none⟩) qq39 (.int .i64 ((rd_T32 l1 x21_2).f3))).trans hx482_0; (try have hy482_0 := fun (n_ : Nat) => (show ((((((w19.drewN n_).setCell ⟨gb480, 0, none⟩ (.int .i64 ((rd_T32 l1 x21_2).f0))).setCell ⟨gb480, 1, none⟩ (.int .i64 ((rd_T32 l1 x21_2).f1))).setCell ⟨gb480, 2, none⟩ (.int .i64 ((rd_T32 l1 x21_2).f2))).setCell ⟨gb480, 3, none⟩ (.int .i64 ((rd_T32 l1 x21_2).f3)))).cell? _ = some _ from hx482_0)); clear hn482_0; clear hn482_1; clear hn482_2; clear hn482_3; replace p482 := eq_true p482; replace q482 := eq_true q482)); try go_wp2_with (first | ((with_reducible refine gate_dst (N := 8) rfl ?_); refine box_event ?hg (N := 8) ?hd (cs := #[.int .i64 0, .int .i64 0, .int .i64 0, .int .i64 0]) (t := 32) ?hr ?_; (case hd => rfl); (case hg => rfl); (case hr => exact qq17); intro gb480 hg w19 hbox hb; have n0_ := Aside0.mk (below_step qq1 hb); have n1_ := Aside0.mk (hbox); have n2_ := Aside0.mk ((qq36 : w.heap.size ≤ gb480)); have n3_ := Aside0.mk ((qq36 : w.heap.size ≤ gb480)); clear HB; have HB := n0_; have BK480 := n1_; have GW480 := n2_; have GE480 := n3_; clear n0_ n1_ n2_ n3_; clear hb hbox hg; have hcz20_0 : w19.cell? ⟨gb480, 0, none⟩ = some (.int .i64 0) := (blk_cell BK480.out 0).trans rfl; have hcz20_1 : w19.cell? ⟨gb480, 1, none⟩ = some (.int .i64 0) := (blk_cell BK480.out 1).trans rfl; have hcz20_2 : w19.cell? ⟨gb480, 2, none⟩ = some (.int .i64 0) := (blk_cell BK480.out 2).trans rfl; have hcz20_3 : w19.cell? ⟨gb480, 3, none⟩ = some (.int .i64 0) := (blk_cell BK480.out 3).trans rfl; have hfz20_0 := blk_frozen BK480.out 0; have hfz20_1 := blk_frozen BK480.out 1; have hfz20_2 := blk_frozen BK480.out 2; have hfz20_3 := blk_frozen BK480.out 3; have p481 : 0 ≤ (((rd_T32 l1 x21_2).f1) : Int) := of_decide_eq_true qq3; have q481 : ((rd_T32 l1 x21_2).f1) < (l2.length : Int) := of_decide_eq_true qq3; obtain ⟨ad481, e481, hx481_0⟩ := Kd.at_int HR2.out ((rd_T32 l1 x21_2).f1) p481 q481; cases e481; have hn481_0 : ad481.block ≠ gb480 := Nat.ne_of_lt (Nat.lt_of_lt_of_le qq19 GW480.out); have hn481_1 : ad481.block ≠ gb480 := Nat.ne_of_lt (Nat.lt_of_lt_of_le qq19 GW480.out); have hn481_2 : ad481.block ≠ gb480 := Nat.ne_of_lt (Nat.lt_of_lt_of_le qq19 GW480.out); have hn481_3 : ad481.block ≠ gb480 := Nat.ne_of_lt (Nat.lt_of_lt_of_le qq19 GW480.out); replace hx481_0 := (HB.out.cell (World.block_lt_of_cell? w _ hx481_0)).trans hx481_0; replace hx481_0 := (cell_far (p := ⟨gb480, 0, none⟩) qq31 (.int .i64 ((rd_T32 l1 x21_2).f0))).trans hx481_0; replace hx481_0 := (cell_far (p := ⟨gb480, 1, none⟩) qq32 (.int .i64 ((rd_T32 l1 x21_2).f1))).trans hx481_0; replace hx481_0 := (cell_far (p := ⟨gb480, 2, none⟩) qq33 (.int .i64 ((rd_T32 l1 x21_2).f2))).trans hx481_0; replace hx481_0 := (cell_far (p := ⟨gb480, 3, none⟩) qq34 (.int .i64 ((rd_T32 l1 x21_2).f3))).trans hx481_0; (try have hy481_0 := fun (n_ : Nat) => (show ((((((w19.drewN n_).setCell ⟨gb480, 0, none⟩ (.int .i64 ((rd_T32 l1 x21_2).f0))).setCell ⟨gb480, 1, none⟩ (.int .i64 ((rd_T32 l1 x21_2).f1))).setCell ⟨gb480, 2, none⟩ (.int .i64 ((rd_T32 l1 x21_2).f2))).setCell ⟨gb480, 3, none⟩ (.int .i64 ((rd_T32 l1 x21_2).f3)))).cell? _ = some _ from hx481_0)); clear hn481_0; clear hn481_1; clear hn481_2; clear hn481_3; replace p481 := eq_true p481; replace q481 := eq_true q481; have p482 : 0 ≤ (((rd_T32 l1 x21_2).f0) : Int) := of_decide_eq_true qq3; have q482 : ((rd_T32 l1 x21_2).f0) < (l2.length : Int) := of_decide_eq_true qq3; obtain ⟨ad482, e482, hx482_0⟩ := Kd.at_int HR2.out ((rd_T32 l1 x21_2).f0) p482 q482; obtain rfl : ad481 = ad482 := (by injection e482); have hn482_0 : ad481.block ≠ gb480 := Nat.ne_of_lt (Nat.lt_of_lt_of_le qq20 GW480.out); have hn482_1 : ad481.block ≠ gb480 := Nat.ne_of_lt (Nat.lt_of_lt_of_le qq20 GW480.out); have hn482_2 : ad481.block ≠ gb480 := Nat.ne_of_lt (Nat.lt_of_lt_of_le qq20 GW480.out); have hn482_3 : ad481.block ≠ gb480 := Nat.ne_of_lt (Nat.lt_of_lt_of_le qq20 GW480.out); replace hx482_0 := (HB.out.cell (World.block_lt_of_cell? w _ hx482_0)).trans hx482_0; replace hx482_0 := (cell_far (p := ⟨gb480, 0, none⟩) qq35 (.int .i64 ((rd_T32 l1 x21_2).f0))).trans hx482_0; replace hx482_0 := (cell_far (p := ⟨gb480, 1, none⟩) qq37 (.int .i64 ((rd_T32 l1 x21_2).f1))).trans hx482_0; replace hx482_0 := (cell_far (p := ⟨gb480, 2, none⟩) qq38 (.int .i64 ((rd_T32 l1 x21_2).f2))).trans hx482_0; replace hx482_0 := (cell_far (p := ⟨gb480, 3, none⟩) qq39 (.int .i64 ((rd_T32 l1 x21_2).f3))).trans hx482_0; (try have hy482_0 := fun (n_ : Nat) => (show ((((((w19.drewN n_).setCell ⟨gb480, 0, none⟩ (.int .i64 ((rd_T32 l1 x21_2).f0))).setCell ⟨gb480, 1, none⟩ (.int .i64 ((rd_T32 l1 x21_2).f1))).setCell ⟨gb480, 2, none⟩ (.int .i64 ((rd_T32 l1 x21_2).f2))).setCell ⟨gb480, 3, none⟩ (.int .i64 ((rd_T32 l1 x21_2).f3)))).cell? _ = some _ from hx482_0)); clear hn482_0; clear hn482_1; clear hn482_2; clear hn482_3; replace p482 := eq_true p482; replace q482 := eq_true q482)))
                            go_roundg k2
                            case measure => have := HJ3.out; have := HK2.out; omega
                            case rel => exact ⟨(wrap64 (x21_2 + 1)), qq9, H', ⟨qq68 HJ3.out HK2.out⟩, ⟨qq4 HB.out GE480.out⟩⟩
                          · rw [if_neg c18] at H
                            have c18b0 : ((wrap64 ((rd l2 ((rd_T32 l1 x21_2).f1)) - (rd l2 ((rd_T32 l1 x21_2).f0)))) == ((rd_T32 l1 x21_2).f2)) = false := beq_eq_false_iff_ne.mpr c18
                            have c18b1 : ((wrap64 ((rd l2 ((rd_T32 l1 x21_2).f1)) - (rd l2 ((rd_T32 l1 x21_2).f0)))) != ((rd_T32 l1 x21_2).f2)) = true := bne_iff_ne.mpr c18
                            obtain rfl := Option.some.inj H
                            have p479 : 0 ≤ (x21_2 : Int) := of_decide_eq_true qq3
                            have q479 : x21_2 < (l1.length : Int) := of_decide_eq_true qq3
                            obtain ⟨ad479, e479, hx479_0, hx479_1, hx479_2, hx479_3⟩ := at_T32 HR1.out x21_2 p479 q479
                            cases e479
                            replace hx479_0 := (HB.out.cell (World.block_lt_of_cell? w _ hx479_0)).trans hx479_0
                            replace hx479_1 := (HB.out.cell (World.block_lt_of_cell? w _ hx479_1)).trans hx479_1
                            replace hx479_2 := (HB.out.cell (World.block_lt_of_cell? w _ hx479_2)).trans hx479_2
                            replace hx479_3 := (HB.out.cell (World.block_lt_of_cell? w _ hx479_3)).trans hx479_3
                            replace p479 := eq_true p479
                            replace q479 := eq_true q479
                            go_wp2_with (first | ((with_reducible refine gate_dst (N := 8) rfl ?_); refine box_event ?hg (N := 8) ?hd (cs := #[.int .i64 0, .int .i64 0, .int .i64 0, .int .i64 0]) (t := 32) ?hr ?_; (case hd => rfl); (case hg => rfl); (case hr => exact qq17); intro gb480 hg w21 hbox hb; have n0_ := Aside0.mk (below_step qq1 hb); have n1_ := Aside0.mk (hbox); have n2_ := Aside0.mk ((qq36 : w.heap.size ≤ gb480)); have n3_ := Aside0.mk ((qq36 : w.heap.size ≤ gb480)); clear HB; have HB := n0_; have BK480 := n1_; have GW480 := n2_; have GE480 := n3_; clear n0_ n1_ n2_ n3_; clear hb hbox hg; have hcz22_0 : w21.cell? ⟨gb480, 0, none⟩ = some (.int .i64 0) := (blk_cell BK480.out 0).trans rfl; have hcz22_1 : w21.cell? ⟨gb480, 1, none⟩ = some (.int .i64 0) := (blk_cell BK480.out 1).trans rfl; have hcz22_2 : w21.cell? ⟨gb480, 2, none⟩ = some (.int .i64 0) := (blk_cell BK480.out 2).trans rfl; have hcz22_3 : w21.cell? ⟨gb480, 3, none⟩ = some (.int .i64 0) := (blk_cell BK480.out 3).trans rfl; have hfz22_0 := blk_frozen BK480.out 0; have hfz22_1 := blk_frozen BK480.out 1; have hfz22_2 := blk_frozen BK480.out 2; have hfz22_3 := blk_frozen BK480.out 3; have p481 : 0 ≤ (((rd_T32 l1 x21_2).f1) : Int) := of_decide_eq_true qq3; have q481 : ((rd_T32 l1 x21_2).f1) < (l2.length : Int) := of_decide_eq_true qq3; obtain ⟨ad481, e481, hx481_0⟩ := Kd.at_int HR2.out ((rd_T32 l1 x21_2).f1) p481 q481; cases e481; have hn481_0 : ad481.block ≠ gb480 := Nat.ne_of_lt (Nat.lt_of_lt_of_le qq19 GW480.out); have hn481_1 : ad481.block ≠ gb480 := Nat.ne_of_lt (Nat.lt_of_lt_of_le qq19 GW480.out); have hn481_2 : ad481.block ≠ gb480 := Nat.ne_of_lt (Nat.lt_of_lt_of_le qq19 GW480.out); have hn481_3 : ad481.block ≠ gb480 := Nat.ne_of_lt (Nat.lt_of_lt_of_le qq19 GW480.out); replace hx481_0 := (HB.out.cell (World.block_lt_of_cell? w _ hx481_0)).trans hx481_0; replace hx481_0 := (cell_far (p := ⟨gb480, 0, none⟩) qq31 (.int .i64 ((rd_T32 l1 x21_2).f0))).trans hx481_0; replace hx481_0 := (cell_far (p := ⟨gb480, 1, none⟩) qq32 (.int .i64 ((rd_T32 l1 x21_2).f1))).trans hx481_0; replace hx481_0 := (cell_far (p := ⟨gb480, 2, none⟩) qq33 (.int .i64 ((rd_T32 l1 x21_2).f2))).trans hx481_0; replace hx481_0 := (cell_far (p := ⟨gb480, 3, none⟩) qq34 (.int .i64 ((rd_T32 l1 x21_2).f3))).trans hx481_0; (try have hy481_0 := fun (n_ : Nat) => (show ((((((w21.drewN n_).setCell ⟨gb480, 0, none⟩ (.int .i64 ((rd_T32 l1 x21_2).f0))).setCell ⟨gb480, 1, none⟩ (.int .i64 ((rd_T32 l1 x21_2).f1))).setCell ⟨gb480, 2, none⟩ (.int .i64 ((rd_T32 l1 x21_2).f2))).setCell ⟨gb480, 3, none⟩ (.int .i64 ((rd_T32 l1 x21_2).f3)))).cell? _ = some _ from hx481_0)); clear hn481_0; clear hn481_1; clear hn481_2; clear hn481_3; replace p481 := eq_true p481; replace q481 := eq_true q481; have p482 : 0 ≤ (((rd_T32 l1 x21_2).f0) : Int) := of_decide_eq_true qq3; have q482 : ((rd_T32 l1 x21_2).f0) < (l2.length : Int) := of_decide_eq_true qq3; obtain ⟨ad482, e482, hx482_0⟩ := Kd.at_int HR2.out ((rd_T32 l1 x21_2).f0) p482 q482; obtain rfl : ad481 = ad482 := (by injection e482); have hn482_0 : ad481.block ≠ gb480 := Nat.ne_of_lt (Nat.lt_of_lt_of_le qq20 GW480.out); have hn482_1 : ad481.block ≠ gb480 := Nat.ne_of_lt (Nat.lt_of_lt_of_le qq20 GW480.out); have hn482_2 : ad481.block ≠ gb480 := Nat.ne_of_lt (Nat.lt_of_lt_of_le qq20 GW480.out); have hn482_3 : ad481.block ≠ gb480 := Nat.ne_of_lt (Nat.lt_of_lt_of_le qq20 GW480.out); replace hx482_0 := (HB.out.cell (World.block_lt_of_cell? w _ hx482_0)).trans hx482_0; replace hx482_0 := (cell_far (p := ⟨gb480, 0, none⟩) qq35 (.int .i64 ((rd_T32 l1 x21_2).f0))).trans hx482_0; replace hx482_0 := (cell_far (p := ⟨gb480, 1, none⟩) qq37 (.int .i64 ((rd_T32 l1 x21_2).f1))).trans hx482_0; replace hx482_0 := (cell_far (p := ⟨gb480, 2, none⟩) qq38 (.int .i64 ((rd_T32 l1 x21_2).f2))).trans hx482_0; replace hx482_0 := (cell_far (p := ⟨gb480, 3, none⟩) qq39 (.int .i64 ((rd_T32 l1 x21_2).f3))).trans hx482_0; (try have hy482_0 := fun (n_ : Nat) => (show ((((((w21.drewN n_).setCell ⟨gb480, 0, none⟩ (.int .i64 ((rd_T32 l1 x21_2).f0))).setCell ⟨gb480, 1, none⟩ (.int .i64 ((rd_T32 l1 x21_2).f1))).setCell ⟨gb480, 2, none⟩ (.int .i64 ((rd_T32 l1 x21_2).f2))).setCell ⟨gb480, 3, none⟩ (.int .i64 ((rd_T32 l1 x21_2).f3)))).cell? _ = some _ from hx482_0)); clear hn482_0; clear hn482_1; clear hn482_2; clear hn482_3; replace p482 := eq_true p482; replace q482 := eq_true q482))
                            repeat (go_quiet (first | ((with_reducible refine gate_dst (N := 8) rfl ?_); refine box_event ?hg (N := 8) ?hd (cs := #[.int .i64 0, .int .i64 0, .int .i64 0, .int .i64 0]) (t := 32) ?hr ?_; (case hd => rfl); (case hg => rfl); (case hr => exact qq17); intro gb480 hg w21 hbox hb; have n0_ := Aside0.mk (below_step qq1 hb); have n1_ := Aside0.mk (hbox); have n2_ := Aside0.mk ((qq36 : w.heap.size ≤ gb480)); have n3_ := Aside0.mk ((qq36 : w.heap.size ≤ gb480)); clear HB; have HB := n0_; have BK480 := n1_; have GW480 := n2_; have GE480 := n3_; clear n0_ n1_ n2_ n3_; clear hb hbox hg; have hcz22_0 : w21.cell? ⟨gb480, 0, none⟩ = some (.int .i64 0) := (blk_cell BK480.out 0).trans rfl; have hcz22_1 : w21.cell? ⟨gb480, 1, none⟩ = some (.int .i64 0) := (blk_cell BK480.out 1).trans rfl; have hcz22_2 : w21.cell? ⟨gb480, 2, none⟩ = some (.int .i64 0) := (blk_cell BK480.out 2).trans rfl; have hcz22_3 : w21.cell? ⟨gb480, 3, none⟩ = some (.int .i64 0) := (blk_cell BK480.out 3).trans rfl; have hfz22_0 := blk_frozen BK480.out 0; have hfz22_1 := blk_frozen BK480.out 1; have hfz22_2 := blk_frozen BK480.out 2; have hfz22_3 := blk_frozen BK480.out 3; have p481 : 0 ≤ (((rd_T32 l1 x21_2).f1) : Int) := of_decide_eq_true qq3; have q481 : ((rd_T32 l1 x21_2).f1) < (l2.length : Int) := of_decide_eq_true qq3; obtain ⟨ad481, e481, hx481_0⟩ := Kd.at_int HR2.out ((rd_T32 l1 x21_2).f1) p481 q481; cases e481; have hn481_0 : ad481.block ≠ gb480 := Nat.ne_of_lt (Nat.lt_of_lt_of_le qq19 GW480.out); have hn481_1 : ad481.block ≠ gb480 := Nat.ne_of_lt (Nat.lt_of_lt_of_le qq19 GW480.out); have hn481_2 : ad481.block ≠ gb480 := Nat.ne_of_lt (Nat.lt_of_lt_of_le qq19 GW480.out); have hn481_3 : ad481.block ≠ gb480 := Nat.ne_of_lt (Nat.lt_of_lt_of_le qq19 GW480.out); replace hx481_0 := (HB.out.cell (World.block_lt_of_cell? w _ hx481_0)).trans hx481_0; replace hx481_0 := (cell_far (p := ⟨gb480, 0, none⟩) qq31 (.int .i64 ((rd_T32 l1 x21_2).f0))).trans hx481_0; replace hx481_0 := (cell_far (p := ⟨gb480, 1, none⟩) qq32 (.int .i64 ((rd_T32 l1 x21_2).f1))).trans hx481_0; replace hx481_0 := (cell_far (p := ⟨gb480, 2, none⟩) qq33 (.int .i64 ((rd_T32 l1 x21_2).f2))).trans hx481_0; replace hx481_0 := (cell_far (p := ⟨gb480, 3, none⟩) qq34 (.int .i64 ((rd_T32 l1 x21_2).f3))).trans hx481_0; (try have hy481_0 := fun (n_ : Nat) => (show ((((((w21.drewN n_).setCell ⟨gb480, 0, none⟩ (.int .i64 ((rd_T32 l1 x21_2).f0))).setCell ⟨gb480, 1, none⟩ (.int .i64 ((rd_T32 l1 x21_2).f1))).setCell ⟨gb480, 2, none⟩ (.int .i64 ((rd_T32 l1 x21_2).f2))).setCell ⟨gb480, 3, none⟩ (.int .i64 ((rd_T32 l1 x21_2).f3)))).cell? _ = some _ from hx481_0)); clear hn481_0; clear hn481_1; clear hn481_2; clear hn481_3; replace p481 := eq_true p481; replace q481 := eq_true q481; have p482 : 0 ≤ (((rd_T32 l1 x21_2).f0) : Int) := of_decide_eq_true qq3; have q482 : ((rd_T32 l1 x21_2).f0) < (l2.length : Int) := of_decide_eq_true qq3; obtain ⟨ad482, e482, hx482_0⟩ := Kd.at_int HR2.out ((rd_T32 l1 x21_2).f0) p482 q482; obtain rfl : ad481 = ad482 := (by injection e482); have hn482_0 : ad481.block ≠ gb480 := Nat.ne_of_lt (Nat.lt_of_lt_of_le qq20 GW480.out); have hn482_1 : ad481.block ≠ gb480 := Nat.ne_of_lt (Nat.lt_of_lt_of_le qq20 GW480.out); have hn482_2 : ad481.block ≠ gb480 := Nat.ne_of_lt (Nat.lt_of_lt_of_le qq20 GW480.out); have hn482_3 : ad481.block ≠ gb480 := Nat.ne_of_lt (Nat.lt_of_lt_of_le qq20 GW480.out); replace hx482_0 := (HB.out.cell (World.block_lt_of_cell? w _ hx482_0)).trans hx482_0; replace hx482_0 := (cell_far (p := ⟨gb480, 0, none⟩) qq35 (.int .i64 ((rd_T32 l1 x21_2).f0))).trans hx482_0; replace hx482_0 := (cell_far (p := ⟨gb480, 1, none⟩) qq37 (.int .i64 ((rd_T32 l1 x21_2).f1))).trans hx482_0; replace hx482_0 := (cell_far (p := ⟨gb480, 2, none⟩) qq38 (.int .i64 ((rd_T32 l1 x21_2).f2))).trans hx482_0; replace hx482_0 := (cell_far (p := ⟨gb480, 3, none⟩) qq39 (.int .i64 ((rd_T32 l1 x21_2).f3))).trans hx482_0; (try have hy482_0 := fun (n_ : Nat) => (show ((((((w21.drewN n_).setCell ⟨gb480, 0, none⟩ (.int .i64 ((rd_T32 l1 x21_2).f0))).setCell ⟨gb480, 1, none⟩ (.int .i64 ((rd_T32 l1 x21_2).f1))).setCell ⟨gb480, 2, none⟩ (.int .i64 ((rd_T32 l1 x21_2).f2))).setCell ⟨gb480, 3, none⟩ (.int .i64 ((rd_T32 l1 x21_2).f3)))).cell? _ = some _ from hx482_0)); clear hn482_0; clear hn482_1; clear hn482_2; clear hn482_3; replace p482 := eq_true p482; replace q482 := eq_true q482)); try go_wp2_with (first | ((with_reducible refine gate_dst (N := 8) rfl ?_); refine box_event ?hg (N := 8) ?hd (cs := #[.int .i64 0, .int .i64 0, .int .i64 0, .int .i64 0]) (t := 32) ?hr ?_; (case hd => rfl); (case hg => rfl); (case hr => exact qq17); intro gb480 hg w21 hbox hb; have n0_ := Aside0.mk (below_step qq1 hb); have n1_ := Aside0.mk (hbox); have n2_ := Aside0.mk ((qq36 : w.heap.size ≤ gb480)); have n3_ := Aside0.mk ((qq36 : w.heap.size ≤ gb480)); clear HB; have HB := n0_; have BK480 := n1_; have GW480 := n2_; have GE480 := n3_; clear n0_ n1_ n2_ n3_; clear hb hbox hg; have hcz22_0 : w21.cell? ⟨gb480, 0, none⟩ = some (.int .i64 0) := (blk_cell BK480.out 0).trans rfl; have hcz22_1 : w21.cell? ⟨gb480, 1, none⟩ = some (.int .i64 0) := (blk_cell BK480.out 1).trans rfl; have hcz22_2 : w21.cell? ⟨gb480, 2, none⟩ = some (.int .i64 0) := (blk_cell BK480.out 2).trans rfl; have hcz22_3 : w21.cell? ⟨gb480, 3, none⟩ = some (.int .i64 0) := (blk_cell BK480.out 3).trans rfl; have hfz22_0 := blk_frozen BK480.out 0; have hfz22_1 := blk_frozen BK480.out 1; have hfz22_2 := blk_frozen BK480.out 2; have hfz22_3 := blk_frozen BK480.out 3; have p481 : 0 ≤ (((rd_T32 l1 x21_2).f1) : Int) := of_decide_eq_true qq3; have q481 : ((rd_T32 l1 x21_2).f1) < (l2.length : Int) := of_decide_eq_true qq3; obtain ⟨ad481, e481, hx481_0⟩ := Kd.at_int HR2.out ((rd_T32 l1 x21_2).f1) p481 q481; cases e481; have hn481_0 : ad481.block ≠ gb480 := Nat.ne_of_lt (Nat.lt_of_lt_of_le qq19 GW480.out); have hn481_1 : ad481.block ≠ gb480 := Nat.ne_of_lt (Nat.lt_of_lt_of_le qq19 GW480.out); have hn481_2 : ad481.block ≠ gb480 := Nat.ne_of_lt (Nat.lt_of_lt_of_le qq19 GW480.out); have hn481_3 : ad481.block ≠ gb480 := Nat.ne_of_lt (Nat.lt_of_lt_of_le qq19 GW480.out); replace hx481_0 := (HB.out.cell (World.block_lt_of_cell? w _ hx481_0)).trans hx481_0; replace hx481_0 := (cell_far (p := ⟨gb480, 0, none⟩) qq31 (.int .i64 ((rd_T32 l1 x21_2).f0))).trans hx481_0; replace hx481_0 := (cell_far (p := ⟨gb480, 1, none⟩) qq32 (.int .i64 ((rd_T32 l1 x21_2).f1))).trans hx481_0; replace hx481_0 := (cell_far (p := ⟨gb480, 2, none⟩) qq33 (.int .i64 ((rd_T32 l1 x21_2).f2))).trans hx481_0; replace hx481_0 := (cell_far (p := ⟨gb480, 3, none⟩) qq34 (.int .i64 ((rd_T32 l1 x21_2).f3))).trans hx481_0; (try have hy481_0 := fun (n_ : Nat) => (show ((((((w21.drewN n_).setCell ⟨gb480, 0, none⟩ (.int .i64 ((rd_T32 l1 x21_2).f0))).setCell ⟨gb480, 1, none⟩ (.int .i64 ((rd_T32 l1 x21_2).f1))).setCell ⟨gb480, 2, none⟩ (.int .i64 ((rd_T32 l1 x21_2).f2))).setCell ⟨gb480, 3, none⟩ (.int .i64 ((rd_T32 l1 x21_2).f3)))).cell? _ = some _ from hx481_0)); clear hn481_0; clear hn481_1; clear hn481_2; clear hn481_3; replace p481 := eq_true p481; replace q481 := eq_true q481; have p482 : 0 ≤ (((rd_T32 l1 x21_2).f0) : Int) := of_decide_eq_true qq3; have q482 : ((rd_T32 l1 x21_2).f0) < (l2.length : Int) := of_decide_eq_true qq3; obtain ⟨ad482, e482, hx482_0⟩ := Kd.at_int HR2.out ((rd_T32 l1 x21_2).f0) p482 q482; obtain rfl : ad481 = ad482 := (by injection e482); have hn482_0 : ad481.block ≠ gb480 := Nat.ne_of_lt (Nat.lt_of_lt_of_le qq20 GW480.out); have hn482_1 : ad481.block ≠ gb480 := Nat.ne_of_lt (Nat.lt_of_lt_of_le qq20 GW480.out); have hn482_2 : ad481.block ≠ gb480 := Nat.ne_of_lt (Nat.lt_of_lt_of_le qq20 GW480.out); have hn482_3 : ad481.block ≠ gb480 := Nat.ne_of_lt (Nat.lt_of_lt_of_le qq20 GW480.out); replace hx482_0 := (HB.out.cell (World.block_lt_of_cell? w _ hx482_0)).trans hx482_0; replace hx482_0 := (cell_far (p := ⟨gb480, 0, none⟩) qq35 (.int .i64 ((rd_T32 l1 x21_2).f0))).trans hx482_0; replace hx482_0 := (cell_far (p := ⟨gb480, 1, none⟩) qq37 (.int .i64 ((rd_T32 l1 x21_2).f1))).trans hx482_0; replace hx482_0 := (cell_far (p := ⟨gb480, 2, none⟩) qq38 (.int .i64 ((rd_T32 l1 x21_2).f2))).trans hx482_0; replace hx482_0 := (cell_far (p := ⟨gb480, 3, none⟩) qq39 (.int .i64 ((rd_T32 l1 x21_2).f3))).trans hx482_0; (try have hy482_0 := fun (n_ : Nat) => (show ((((((w21.drewN n_).setCell ⟨gb480, 0, none⟩ (.int .i64 ((rd_T32 l1 x21_2).f0))).setCell ⟨gb480, 1, none⟩ (.int .i64 ((rd_T32 l1 x21_2).f1))).setCell ⟨gb480, 2, none⟩ (.int .i64 ((rd_T32 l1 x21_2).f2))).setCell ⟨gb480, 3, none⟩ (.int .i64 ((rd_T32 l1 x21_2).f3)))).cell? _ = some _ from hx482_0)); clear hn482_0; clear hn482_1; clear hn482_2; clear hn482_3; replace p482 := eq_true p482; replace q482 := eq_true q482)))
                            go_ret
                            exact ⟨qq12, qq4 HB.out GE480.out⟩
                        · rw [if_neg c17] at H
                          exact absurd H (by simp)
                      · rw [if_neg c16] at H
                        exact absurd H (by simp)
                    · rw [if_neg c15] at H
                      exact absurd H (by simp)
                  · rw [if_neg c14] at H
                    exact absurd H (by simp)
                · rw [if_neg c13] at H
                  exact absurd H (by simp)
              · rw [if_neg c12] at H
                exact absurd H (by simp)
            · rw [if_neg c11] at H
              have c11b0 : decide (x21_2 < (l1.length : Int)) = false := decide_eq_false c11
              clear c11
              obtain rfl := Option.some.inj H
              go_wp2
              repeat (go_quiet (fail); try go_wp2)
              go_ret
              exact ⟨qq12, qq1⟩

end Go.Proofs.Ytmcfhmflncghiaa.Q
namespace Go.Proofs.Ytmcfhmflncghiaa.Q
open Go.RowKit Go.Proofs.YtmcfhmflncghiaaW.PrintWords Go.Proofs.YtmcfhmflncghiaaW.PrintLast Go.Proofs.YtmcfhmflncghiaaW.PrintMore
attribute [local go_sem] max2_int min2_int max_two min_two max_three min_three max_four min_four
set_option linter.unusedVariables false
set_option linter.unusedSimpArgs false

/-- A state of type 61 at block g of W; what its slices lead to came in by w0. -/
def IsS61 (w0 W : World) (g : Nat) (f0 : List Int) (f1 : Int) : Prop := ∃ A0 c0, W.heap[g]? = some (.cells #[.slice A0 f0.length c0, .int .i64 f1] 61 (0, 0)) ∧ w0.heap.size ≤ g ∧ Kd.C (Kd.int .u8) w0 A0 f0.length f0
theorem IsS61.grown {w0 W : World} {g : Nat} {f0 : List Int} {f1 : Int} {W1 : World} {row : Option Nat} (h : IsS61 w0 W g f0 f1) (hw : W.grownBy W1 row) (hne : some g ≠ row) : IsS61 w0 W1 g f0 f1 := by
  obtain ⟨A0, c0, hb, hg, hr0⟩ := h
  exact ⟨A0, c0, blk_grown hb hw hne, hg, hr0⟩
theorem IsS61.below {w0 W : World} {g : Nat} {f0 : List Int} {f1 : Int} {W1 : World} (h : IsS61 w0 W g f0 f1) (hw : Below W.heap.size W W1) : IsS61 w0 W1 g f0 f1 := h.grown (grown_of_below hw none) (by simp)
theorem IsS61.alloc {w0 W : World} {g : Nat} {f0 : List Int} {f1 : Int} (h : IsS61 w0 W g f0 f1) (o : Obj) : IsS61 w0 (W.alloc o) g f0 f1 := h.below (below_alloc (Below.refl _ _) o)
theorem IsS61.drewN {w0 W : World} {g : Nat} {f0 : List Int} {f1 : Int} (h : IsS61 w0 W g f0 f1) (m : Nat) : IsS61 w0 (W.drewN m) g f0 f1 := h
theorem IsS61.drew {w0 W : World} {g : Nat} {f0 : List Int} {f1 : Int} (h : IsS61 w0 W g f0 f1) : IsS61 w0 W.drew g f0 f1 := h
theorem IsS61.at_ {w0 W : World} {g : Nat} {f0 : List Int} {f1 : Int} {w' : World} {m : Nat} (hq : W.drewN m = w') (h : IsS61 w0 W g f0 f1) : IsS61 w0 w' g f0 f1 := by subst hq; exact IsS61.drewN h m
theorem IsS61.apart {w0 W : World} {g : Nat} {f0 : List Int} {f1 : Int} {α : Type} {d : Kd α} {e : Nat} {base : Nat} {ok : Nat → Prop} {v : Value} {xs : List α} (h : IsS61 w0 W g f0 f1) (ho : d.R e W base ok v xs) (ht : ∀ q, q ∈ e :: d.E → q ≠ 61) : d.R e W base (fun k => ok k ∧ k ≠ g) v xs := by
  obtain ⟨A0, c0, hb, hg, hr0⟩ := h
  exact Kd.R_types ho hb ht
theorem IsS61.own_ne {w0 W : World} {g : Nat} {f0 : List Int} {f1 : Int} {α : Type} {d : Kd α} {e : Nat} {base : Nat} {ok : Nat → Prop} {v : Value} {xs : List α} (h : IsS61 w0 W g f0 f1) (ho : d.R e W base ok v xs) (ht : e ≠ 61) : some g ≠ v.ownBlock := by
  obtain ⟨A0, c0, hb, hg, hr0⟩ := h
  exact Kd.R_ne ho hb ht
theorem IsS61.ge {w0 W : World} {g : Nat} {f0 : List Int} {f1 : Int} (h : IsS61 w0 W g f0 f1) : w0.heap.size ≤ g := by
  obtain ⟨A0, c0, hb, hg, hr0⟩ := h
  exact hg
theorem cellS61_0 {W : World} {g : Nat} {A0 : Option Addr} {c0 : Nat} {f0 : List Int} {f1 : Int} (h : W.heap[g]? = some (.cells #[.slice A0 f0.length c0, .int .i64 f1] 61 (0, 0))) : W.cell? ⟨g, 0, none⟩ = some (.slice A0 f0.length c0) := (blk_cell h 0).trans rfl
theorem cellS61_1 {W : World} {g : Nat} {A0 : Option Addr} {c0 : Nat} {f0 : List Int} {f1 : Int} (h : W.heap[g]? = some (.cells #[.slice A0 f0.length c0, .int .i64 f1] 61 (0, 0))) : W.cell? ⟨g, 1, none⟩ = some (.int .i64 f1) := (blk_cell h 1).trans rfl
theorem IsS61.set_1 {w0 W : World} {g : Nat} {f0 : List Int} {f1 : Int} (h : IsS61 w0 W g f0 f1) (x : Int) : IsS61 w0 (W.setCell ⟨g, 1, none⟩ (.int .i64 x)) g f0 x := by
  obtain ⟨A0, c0, hb, hg, hr0⟩ := h
  exact ⟨A0, c0, by simpa using blk_set hb 1 (.int .i64 x), hg, hr0⟩
/-! ### spec_l6Rd_pick: function 36 -/
def spec_l6Rd_pick.j0 : Nat → Int → Bool → List Int → Int → Option (Int × Int)
  | 0, _, _, _, _ => none
  | k + 1, x1, x24, x1000, x1001 => if x24 = true then (some (0, x1001)) else (if (wrap64 (x1001 - 1)) < (x1000.length : Int) then (if 0 ≤ (wrap64 (x1001 - 1)) then (if x1 = 0 then (none) else (some (Int.tmod (wrap64 (rd x1000 (wrap64 (x1001 - 1)))) x1, x1001))) else (none)) else (if (x1000.length : Int) = 0 then (none) else (if 0 ≤ (Int.tmod (wrap64 (x1001 - 1)) (x1000.length : Int)) then (if (Int.tmod (wrap64 (x1001 - 1)) (x1000.length : Int)) < (x1000.length : Int) then (if 0 ≤ (Int.tmod (wrap64 ((wrap64 ((wrap64 (x1001 - 1)) * 7)) + 3)) (x1000.length : Int)) then (if (Int.tmod (wrap64 ((wrap64 ((wrap64 (x1001 - 1)) * 7)) + 3)) (x1000.length : Int)) < (x1000.length : Int) then (if x1 = 0 then (none) else (some (Int.tmod (Go.bits .xor .i64 (wrap64 ((wrap64 ((wrap64 ((wrap64 ((wrap64 (rd x1000 (Int.tmod (wrap64 (x1001 - 1)) (x1000.length : Int)))) * 131)) + (wrap64 ((wrap64 (rd x1000 (Int.tmod (wrap64 ((wrap64 ((wrap64 (x1001 - 1)) * 7)) + 3)) (x1000.length : Int)))) * 1117)))) + (wrap64 ((wrap64 (x1001 - 1)) * 29)))) + (wrap64 ((wrap64 (Int.tdiv (wrap64 (x1001 - 1)) (x1000.length : Int))) * 53)))) (wrap64 (Int.tdiv (wrap64 ((wrap64 ((wrap64 ((wrap64 ((wrap64 (rd x1000 (Int.tmod (wrap64 (x1001 - 1)) (x1000.length : Int)))) * 131)) + (wrap64 ((wrap64 (rd x1000 (Int.tmod (wrap64 ((wrap64 ((wrap64 (x1001 - 1)) * 7)) + 3)) (x1000.length : Int)))) * 1117)))) + (wrap64 ((wrap64 (x1001 - 1)) * 29)))) + (wrap64 ((wrap64 (Int.tdiv (wrap64 (x1001 - 1)) (x1000.length : Int))) * 53)))) 64))) x1, x1001))) else (none)) else (none)) else (none)) else (none))))
def spec_l6Rd_pick.f (k : Nat) (s0_0 : List Int) (s0_1 : Int) (a1 : Int) : Option (Int × Int) := if a1 < 1 then (spec_l6Rd_pick.j0 k a1 true s0_0 (wrap64 (s0_1 + 1))) else (spec_l6Rd_pick.j0 k a1 ((s0_0.length : Int) == 0) s0_0 (wrap64 (s0_1 + 1)))
set_option maxHeartbeats 8000000 in
set_option maxRecDepth 100000 in
theorem spec_l6Rd_pick.calls (k : Nat) (g : Nat) (s0_0 : List Int) (s0_1 : Int) (a1 : Int) (r1 : Int) (r2 : Int) (w0 w : World) (hI : IsS61 w0 w g s0_0 s0_1) (hB : Below w0.heap.size w0 w) (h : spec_l6Rd_pick.f k s0_0 s0_1 a1 = some (r1, r2)) :
    Calls Try.prog 36 #[.pointer (some ⟨g, 0, none⟩), .int .i64 a1] w fun e w' => e = .returned (.int .i64 r1) ∧ IsS61 w0 w' g s0_0 r2 ∧ Below w0.heap.size w0 w' ∧ KeepBut w w' g none := by
  have HI0 := Aside0.mk hI
  have HK := Aside0.mk (KeepBut.refl w g none)
  have HL := Aside0.mk hB.size
  clear hI
  have HW0 := Aside0.mk hB.size
  have HB := Aside0.mk hB
  clear hB
  have H : (if a1 < 1 then (spec_l6Rd_pick.j0 k a1 true s0_0 (wrap64 (s0_1 + 1))) else (spec_l6Rd_pick.j0 k a1 ((s0_0.length : Int) == 0) s0_0 (wrap64 (s0_1 + 1)))) = some (r1, r2) := h
  clear h
  have HC3 := Aside0.mk H
  clear H
  obtain ⟨ASz4_0, cSz4_0, HGz4, hgz4, HSz4_0⟩ := HI0.out
  have hcz4_0 := cellS61_0 HGz4
  have hcz4_1 := cellS61_1 HGz4
  have hfz4_1 := blk_frozen HGz4 1
  clear HGz4 hgz4
  go_enter Try.func36, Try.ntmps36
  go_upto_region 2 with (fail)
  repeat (go_quiet (fail); go_upto_region 2 with (fail))
  go_cut [24] (fun v24 wc => ∃ (kq : Nat) (x24_2 : Bool), v24 = .bool x24_2 ∧ Aside0 (spec_l6Rd_pick.j0 kq a1 x24_2 s0_0 (wrap64 (s0_1 + 1)) = some (r1, r2)) ∧ Aside0 (kq ≤ k) ∧ Aside0 (IsS61 w0 wc g s0_0 (wrap64 (s0_1 + 1))) ∧ Aside0 (KeepBut w wc g none) ∧ Aside0 (Below w0.heap.size w0 wc))
  case first =>
    have H := HC3.out
    clear HC3
    by_cases c5 : a1 < 1
    · rw [if_pos c5] at H
      have c5b0 : decide (a1 < 1) = true := decide_eq_true c5
      clear c5
      (first | rw [c5b0] | (simp only [i64_w, i32_w]; rw [c5b0]) | skip)
      have H' := Aside0.mk H
      clear H
      go_wp2
      repeat (go_quiet (fail); try go_wp2)
      go_meet
      case rel => exact ⟨_, (true), qq9, H', ⟨qq29⟩, ⟨qq8 HI0.out⟩, ⟨qq11⟩, ⟨qq7 HB.out HI0.out⟩⟩
    · rw [if_neg c5] at H
      have c5b0 : decide (a1 < 1) = false := decide_eq_false c5
      clear c5
      (first | rw [c5b0] | (simp only [i64_w, i32_w]; rw [c5b0]) | skip)
      have H' := Aside0.mk H
      clear H
      obtain ⟨ASz6_0, cSz6_0, HGz6, hgz6, HSz6_0⟩ := HI0.out
      have hcz6_0 := cellS61_0 HGz6
      have hcz6_1 := cellS61_1 HGz6
      have hfz6_1 := blk_frozen HGz6 1
      clear HGz6 hgz6
      go_wp2
      repeat (go_quiet (fail); try go_wp2)
      go_meet
      case rel => exact ⟨_, (((s0_0.length : Int) == 0)), qq9, H', ⟨qq29⟩, ⟨qq8 HI0.out⟩, ⟨qq11⟩, ⟨qq7 HB.out HI0.out⟩⟩
  case rest =>
    clear HC3
    try clear p2
    try clear c3
    try clear c5
    try clear c5b0
    try clear p6
    try clear hcz4_0
    try clear hcz4_1
    try clear hcz6_0
    try clear hcz6_1
    try clear hfz4_1
    try clear hfz6_1
    obtain ⟨kq, x24_2, rfl, HA, HJ2, HI0, HK, HB⟩ := hcut
    cases kq with
    | zero => exact absurd HA.out (by simp [spec_l6Rd_pick.j0])
    | succ kj2 =>
      have H := HA.out
      clear HA
      simp only [spec_l6Rd_pick.j0] at H
      by_cases c7 : x24_2 = true
      · subst c7
        have H1 : (some (0, (wrap64 (s0_1 + 1)))) = some (r1, r2) := by rw [if_pos rfl] at H; exact H
        clear H
        have H := H1
        clear H1
        simp only [Option.some.injEq, Prod.mk.injEq] at H
        obtain ⟨rfl, rfl⟩ := H
        go_wp2
        repeat (go_quiet (fail); try go_wp2)
        go_ret
        exact ⟨qq12, qq8 HI0.out, qq7 HB.out HI0.out, qq11⟩
      · replace c7 := Bool.eq_false_iff.mpr c7
        subst c7
        have H1 : (if (wrap64 ((wrap64 (s0_1 + 1)) - 1)) < (s0_0.length : Int) then (if 0 ≤ (wrap64 ((wrap64 (s0_1 + 1)) - 1)) then (if a1 = 0 then (none) else (some (Int.tmod (wrap64 (rd s0_0 (wrap64 ((wrap64 (s0_1 + 1)) - 1)))) a1, (wrap64 (s0_1 + 1))))) else (none)) else (if (s0_0.length : Int) = 0 then (none) else (if 0 ≤ (Int.tmod (wrap64 ((wrap64 (s0_1 + 1)) - 1)) (s0_0.length : Int)) then (if (Int.tmod (wrap64 ((wrap64 (s0_1 + 1)) - 1)) (s0_0.length : Int)) < (s0_0.length : Int) then (if 0 ≤ (Int.tmod (wrap64 ((wrap64 ((wrap64 ((wrap64 (s0_1 + 1)) - 1)) * 7)) + 3)) (s0_0.length : Int)) then (if (Int.tmod (wrap64 ((wrap64 ((wrap64 ((wrap64 (s0_1 + 1)) - 1)) * 7)) + 3)) (s0_0.length : Int)) < (s0_0.length : Int) then (if a1 = 0 then (none) else (some (Int.tmod (Go.bits .xor .i64 (wrap64 ((wrap64 ((wrap64 ((wrap64 ((wrap64 (rd s0_0 (Int.tmod (wrap64 ((wrap64 (s0_1 + 1)) - 1)) (s0_0.length : Int)))) * 131)) + (wrap64 ((wrap64 (rd s0_0 (Int.tmod (wrap64 ((wrap64 ((wrap64 ((wrap64 (s0_1 + 1)) - 1)) * 7)) + 3)) (s0_0.length : Int)))) * 1117)))) + (wrap64 ((wrap64 ((wrap64 (s0_1 + 1)) - 1)) * 29)))) + (wrap64 ((wrap64 (Int.tdiv (wrap64 ((wrap64 (s0_1 + 1)) - 1)) (s0_0.length : Int))) * 53)))) (wrap64 (Int.tdiv (wrap64 ((wrap64 ((wrap64 ((wrap64 ((wrap64 (rd s0_0 (Int.tmod (wrap64 ((wrap64 (s0_1 + 1)) - 1)) (s0_0.length : Int)))) * 131)) + (wrap64 ((wrap64 (rd s0_0 (Int.tmod (wrap64 ((wrap64 ((wrap64 ((wrap64 (s0_1 + 1)) - 1)) * 7)) + 3)) (s0_0.length : Int)))) * 1117)))) + (wrap64 ((wrap64 ((wrap64 (s0_1 + 1)) - 1)) * 29)))) + (wrap64 ((wrap64 (Int.tdiv (wrap64 ((wrap64 (s0_1 + 1)) - 1)) (s0_0.length : Int))) * 53)))) 64))) a1, (wrap64 (s0_1 + 1))))) else (none)) else (none)) else (none)) else (none)))) = some (r1, r2) := by rw [if_neg (show ¬ (false = true) by decide)] at H; exact H
        clear H
        have H := H1
        clear H1
        by_cases c8 : (wrap64 ((wrap64 (s0_1 + 1)) - 1)) < (s0_0.length : Int)
        · rw [if_pos c8] at H
          have c8b0 : decide ((wrap64 ((wrap64 (s0_1 + 1)) - 1)) < (s0_0.length : Int)) = true := decide_eq_true c8
          clear c8
          obtain ⟨ji9, hji9⟩ : ∃ j_ : Int, (wrap64 ((wrap64 (s0_1 + 1)) - 1)) = j_ := ⟨_, rfl⟩
          replace H : (if 0 ≤ (ji9) then (if a1 = 0 then (none) else (some (Int.tmod (wrap64 (rd s0_0 (ji9))) a1, (wrap64 (s0_1 + 1))))) else (none)) = some (r1, r2) := by first | (rw [hji9] at H; exact H) | (simp only [hji9] at H ⊢; exact H)
          (try rw [hji9] at c8b0)
          have hji9w : (IntKind.i64.wrap ((wrap64 (s0_1 + 1)) - 1)) = ji9 := (i64_w _).trans hji9
          by_cases c10 : 0 ≤ (ji9)
          · rw [if_pos c10] at H
            have c10b0 : decide (0 ≤ (ji9)) = true := decide_eq_true c10
            clear c10
            by_cases c11 : a1 = 0
            · rw [if_pos c11] at H
              exact absurd H (by simp)
            · rw [if_neg c11] at H
              have c11b0 : (a1 == 0) = false := beq_eq_false_iff_ne.mpr c11
              have c11b1 : (a1 != 0) = true := bne_iff_ne.mpr c11
              simp only [Option.some.injEq, Prod.mk.injEq] at H
              obtain ⟨rfl, rfl⟩ := H
              obtain ⟨ASz12_0, cSz12_0, HGz12, hgz12, HSz12_0⟩ := HI0.out
              have hcz12_0 := cellS61_0 HGz12
              have hcz12_1 := cellS61_1 HGz12
              have hfz12_1 := blk_frozen HGz12 1
              clear HGz12 hgz12
              have p101 : 0 ≤ ((ji9) : Int) := of_decide_eq_true qq3
              have q101 : (ji9) < (s0_0.length : Int) := of_decide_eq_true qq3
              obtain ⟨ad101, e101, hx101_0⟩ := Kd.at_int HSz12_0 (ji9) p101 q101
              cases e101
              replace hx101_0 := pw_cell_below HB.out hx101_0
              replace p101 := eq_true p101
              replace q101 := eq_true q101
              go_wp2
              repeat (go_quiet (fail); try go_wp2)
              go_ret
              exact ⟨by first | rfl | (simp [errW_none, errW_some] <;> rfl) | (simp only [← hji9]; first | rfl | (simp [errW_none, errW_some] <;> rfl)) | (simp [*, errW_none, errW_some] <;> rfl), qq8 HI0.out, qq7 HB.out HI0.out, qq11⟩
          · rw [if_neg c10] at H
            exact absurd H (by simp)
        · rw [if_neg c8] at H
          have c8b0 : decide ((wrap64 ((wrap64 (s0_1 + 1)) - 1)) < (s0_0.length : Int)) = false := decide_eq_false c8
          clear c8
          by_cases c13 : (s0_0.length : Int) = 0
          · rw [if_pos c13] at H
            exact absurd H (by simp)
          · rw [if_neg c13] at H
            have c13b0 : ((s0_0.length : Int) == 0) = false := beq_eq_false_iff_ne.mpr c13
            have c13b1 : ((s0_0.length : Int) != 0) = true := bne_iff_ne.mpr c13
            have c13b2 : ¬ (s0_0 = []) := fun h_ => c13 (by rw [h_]; rfl)
            obtain ⟨ji14, hji14⟩ : ∃ j_ : Int, (Int.tmod (wrap64 ((wrap64 (s0_1 + 1)) - 1)) (s0_0.length : Int)) = j_ := ⟨_, rfl⟩
            replace H : (if 0 ≤ (ji14) then (if (ji14) < (s0_0.length : Int) then (if 0 ≤ (Int.tmod (wrap64 ((wrap64 ((wrap64 ((wrap64 (s0_1 + 1)) - 1)) * 7)) + 3)) (s0_0.length : Int)) then (if (Int.tmod (wrap64 ((wrap64 ((wrap64 ((wrap64 (s0_1 + 1)) - 1)) * 7)) + 3)) (s0_0.length : Int)) < (s0_0.length : Int) then (if a1 = 0 then (none) else (some (Int.tmod (Go.bits .xor .i64 (wrap64 ((wrap64 ((wrap64 ((wrap64 ((wrap64 (rd s0_0 (ji14))) * 131)) + (wrap64 ((wrap64 (rd s0_0 (Int.tmod (wrap64 ((wrap64 ((wrap64 ((wrap64 (s0_1 + 1)) - 1)) * 7)) + 3)) (s0_0.length : Int)))) * 1117)))) + (wrap64 ((wrap64 ((wrap64 (s0_1 + 1)) - 1)) * 29)))) + (wrap64 ((wrap64 (Int.tdiv (wrap64 ((wrap64 (s0_1 + 1)) - 1)) (s0_0.length : Int))) * 53)))) (wrap64 (Int.tdiv (wrap64 ((wrap64 ((wrap64 ((wrap64 ((wrap64 (rd s0_0 (ji14))) * 131)) + (wrap64 ((wrap64 (rd s0_0 (Int.tmod (wrap64 ((wrap64 ((wrap64 ((wrap64 (s0_1 + 1)) - 1)) * 7)) + 3)) (s0_0.length : Int)))) * 1117)))) + (wrap64 ((wrap64 ((wrap64 (s0_1 + 1)) - 1)) * 29)))) + (wrap64 ((wrap64 (Int.tdiv (wrap64 ((wrap64 (s0_1 + 1)) - 1)) (s0_0.length : Int))) * 53)))) 64))) a1, (wrap64 (s0_1 + 1))))) else (none)) else (none)) else (none)) else (none)) = some (r1, r2) := by first | (rw [hji14] at H; exact H) | (simp only [hji14] at H ⊢; exact H)
            by_cases c15 : 0 ≤ (ji14)
            · rw [if_pos c15] at H
              have c15b0 : decide (0 ≤ (ji14)) = true := decide_eq_true c15
              clear c15
              by_cases c16 : (ji14) < (s0_0.length : Int)
              · rw [if_pos c16] at H
                have c16b0 : decide ((ji14) < (s0_0.length : Int)) = true := decide_eq_true c16
                clear c16
                obtain ⟨ji17, hji17⟩ : ∃ j_ : Int, (Int.tmod (wrap64 ((wrap64 ((wrap64 ((wrap64 (s0_1 + 1)) - 1)) * 7)) + 3)) (s0_0.length : Int)) = j_ := ⟨_, rfl⟩
                replace H : (if 0 ≤ (ji17) then (if (ji17) < (s0_0.length : Int) then (if a1 = 0 then (none) else (some (Int.tmod (Go.bits .xor .i64 (wrap64 ((wrap64 ((wrap64 ((wrap64 ((wrap64 (rd s0_0 (ji14))) * 131)) + (wrap64 ((wrap64 (rd s0_0 (ji17))) * 1117)))) + (wrap64 ((wrap64 ((wrap64 (s0_1 + 1)) - 1)) * 29)))) + (wrap64 ((wrap64 (Int.tdiv (wrap64 ((wrap64 (s0_1 + 1)) - 1)) (s0_0.length : Int))) * 53)))) (wrap64 (Int.tdiv (wrap64 ((wrap64 ((wrap64 ((wrap64 ((wrap64 (rd s0_0 (ji14))) * 131)) + (wrap64 ((wrap64 (rd s0_0 (ji17))) * 1117)))) + (wrap64 ((wrap64 ((wrap64 (s0_1 + 1)) - 1)) * 29)))) + (wrap64 ((wrap64 (Int.tdiv (wrap64 ((wrap64 (s0_1 + 1)) - 1)) (s0_0.length : Int))) * 53)))) 64))) a1, (wrap64 (s0_1 + 1))))) else (none)) else (none)) = some (r1, r2) := by first | (rw [hji17] at H; exact H) | (simp only [hji17] at H ⊢; exact H)
                by_cases c18 : 0 ≤ (ji17)
                · rw [if_pos c18] at H
                  have c18b0 : decide (0 ≤ (ji17)) = true := decide_eq_true c18
                  clear c18
                  by_cases c19 : (ji17) < (s0_0.length : Int)
                  · rw [if_pos c19] at H
                    have c19b0 : decide ((ji17) < (s0_0.length : Int)) = true := decide_eq_true c19
                    clear c19
                    by_cases c20 : a1 = 0
                    · rw [if_pos c20] at H
                      exact absurd H (by simp)
                    · rw [if_neg c20] at H
                      have c20b0 : (a1 == 0) = false := beq_eq_false_iff_ne.mpr c20
                      have c20b1 : (a1 != 0) = true := bne_iff_ne.mpr c20
                      simp only [Option.some.injEq, Prod.mk.injEq] at H
                      obtain ⟨rfl, rfl⟩ := H
                      obtain ⟨ASz21_0, cSz21_0, HGz21, hgz21, HSz21_0⟩ := HI0.out
                      have hcz21_0 := cellS61_0 HGz21
                      have hcz21_1 := cellS61_1 HGz21
                      have hfz21_1 := blk_frozen HGz21 1
                      clear HGz21 hgz21
                      have p102 : 0 ≤ ((ji14) : Int) := of_decide_eq_true qq3
                      have q102 : (ji14) < (s0_0.length : Int) := of_decide_eq_true qq3
                      obtain ⟨ad102, e102, hx102_0⟩ := Kd.at_int HSz21_0 (ji14) p102 q102
                      cases e102
                      replace hx102_0 := pw_cell_below HB.out hx102_0
                      replace p102 := eq_true p102
                      replace q102 := eq_true q102
                      have p103 : 0 ≤ ((ji17) : Int) := of_decide_eq_true qq3
                      have q103 : (ji17) < (s0_0.length : Int) := of_decide_eq_true qq3
                      obtain ⟨ad103, e103, hx103_0⟩ := Kd.at_int HSz21_0 (ji17) p103 q103
                      obtain rfl : ad102 = ad103 := (by injection e103)
                      replace hx103_0 := pw_cell_below HB.out hx103_0
                      replace p103 := eq_true p103
                      replace q103 := eq_true q103
                      go_wp2
                      repeat (go_quiet (fail); try go_wp2)
                      go_ret
                      exact ⟨by first | rfl | (simp [errW_none, errW_some] <;> rfl) | (simp only [← hji14, ← hji17]; first | rfl | (simp [errW_none, errW_some] <;> rfl)) | (simp [*, errW_none, errW_some] <;> rfl), qq8 HI0.out, qq7 HB.out HI0.out, qq11⟩
                  · rw [if_neg c19] at H
                    exact absurd H (by simp)
                · rw [if_neg c18] at H
                  exact absurd H (by simp)
              · rw [if_neg c16] at H
                exact absurd H (by simp)
            · rw [if_neg c15] at H
              exact absurd H (by simp)

end Go.Proofs.Ytmcfhmflncghiaa.Q
namespace Go.Proofs.Ytmcfhmflncghiaa.Q
open Go.RowKit Go.Proofs.YtmcfhmflncghiaaW.PrintWords Go.Proofs.YtmcfhmflncghiaaW.PrintLast Go.Proofs.YtmcfhmflncghiaaW.PrintMore
attribute [local go_sem] max2_int min2_int max_two min_two max_three min_three max_four min_four
set_option linter.unusedVariables false
set_option linter.unusedSimpArgs false

/-! ### spec_l6Open: function 25 -/
def spec_l6Open.f (l0 : List Int) : Option (List Int × Int) := if (l0.length : Int) > 2000 then (if 2000 ≤ (l0.length : Int) then (some (l0.take 2000, 0)) else (none)) else (some (l0, 0))
set_option maxHeartbeats 8000000 in
set_option maxRecDepth 100000 in
theorem spec_l6Open.calls (A0 : Option Addr) (c0 : Nat) (l0 : List Int) (r1 : List Int) (r2 : Int) (w0 w : World) (hB : Below w0.heap.size w0 w) (hr0 : Kd.C (Kd.int .u8) w0 A0 l0.length l0) (hc0 : l0.length ≤ c0) (h : spec_l6Open.f l0 = some (r1, r2)) :
    Calls Try.prog 25 #[.slice A0 l0.length c0] w fun e w' => ∃ g_ : Nat, e = .returned (.pointer (some ⟨g_, 0, none⟩)) ∧ IsS61 w0 w' g_ r1 r2 ∧ Below w0.heap.size w0 w' ∧ Below w.heap.size w w' := by
  have hu61 := Try.underlying61
  have HR0 := Aside0.mk hr0
  have HC0 := Aside0.mk hc0
  clear hr0 hc0
  have HBW := Aside0.mk (Below.refl w.heap.size w)
  have HW0 := Aside0.mk hB.size
  have HB := Aside0.mk hB
  clear hB
  have H : (if (l0.length : Int) > 2000 then (if 2000 ≤ (l0.length : Int) then (some (l0.take 2000, 0)) else (none)) else (some (l0, 0))) = some (r1, r2) := h
  clear h
  by_cases c2 : (l0.length : Int) > 2000
  · rw [if_pos c2] at H
    have c2b0 : decide (2000 < (l0.length : Int)) = true := decide_eq_true c2
    have c2b1 : decide (2000 < l0.length) = true := decide_eq_true (by omega)
    clear c2
    by_cases c3 : 2000 ≤ (l0.length : Int)
    · rw [if_pos c3] at H
      have c3b0 := eq_true c3
      have c3b1 : decide (2000 ≤ (l0.length : Int)) = true := decide_eq_true c3
      clear c3
      simp only [Option.some.injEq, Prod.mk.injEq] at H
      obtain ⟨rfl, rfl⟩ := H
      obtain ⟨i04, hi04, _, hsz4, _⟩ := info_parts info5
      obtain ⟨hcut4, hA4, hC4⟩ := print_take_of (P := Try.prog) (Value.int .u8) 0 22 5 .i64 Try.underlying22 hi04 hsz4 A0 c0 l0 2000 (by omega) (of_decide_eq_true qq3) HC0.out
      have HR192 := Aside0.mk (Kd.C_of_reads (h1 := fun _ => rfl) (hA4 _ (Kd.reads_of_C HR0.out)))
      have HC192 := Aside0.mk hC4
      clear hA4 hC4 hi04 hsz4
      go_enter Try.func25, Try.ntmps25
      go_wp2_with (first | ((with_reducible refine gate_dst (N := 10) rfl ?_); refine box_event ?hg (N := 10) ?hd (cs := #[.slice A0 (l0.take 2000).length c0, .int .i64 0]) (t := 61) ?hr ?_; (case hd => rfl); (case hg => rfl); (case hr => exact qq17); intro gb193 hg w5 hbox hb; have n0_ := Aside0.mk (below_step HBW.out hb); have n1_ := Aside0.mk (below_step qq1 hb); have n2_ := Aside0.mk (hbox); have n3_ := Aside0.mk ((qq42 : w.heap.size ≤ gb193)); have n4_ := Aside0.mk ((Nat.le_trans HW0.out (qq42 : w.heap.size ≤ gb193) : w0.heap.size ≤ gb193)); clear HBW; clear HB; have HBW := n0_; have HB := n1_; have BK193 := n2_; have GW193 := n3_; have GE193 := n4_; clear n0_ n1_ n2_ n3_ n4_; clear hb hbox hg))
      go_ret
      exact ⟨_, rfl, (show IsS61 w0 _ gb193 (l0.take 2000) 0 from ⟨_, _, qq27 BK193.out, GE193.out, HR192.out⟩), qq4 HB.out GE193.out, qq4 HBW.out GW193.out⟩
    · rw [if_neg c3] at H
      exact absurd H (by simp)
  · rw [if_neg c2] at H
    have c2b0 : decide (2000 < (l0.length : Int)) = false := decide_eq_false c2
    have c2b1 : decide (2000 < l0.length) = false := decide_eq_false (by omega)
    clear c2
    simp only [Option.some.injEq, Prod.mk.injEq] at H
    obtain ⟨rfl, rfl⟩ := H
    go_enter Try.func25, Try.ntmps25
    go_wp2_with (first | ((with_reducible refine gate_dst (N := 10) rfl ?_); refine box_event ?hg (N := 10) ?hd (cs := #[.slice A0 l0.length c0, .int .i64 0]) (t := 61) ?hr ?_; (case hd => rfl); (case hg => rfl); (case hr => exact qq17); intro gb194 hg w6 hbox hb; have n0_ := Aside0.mk (below_step HBW.out hb); have n1_ := Aside0.mk (below_step qq1 hb); have n2_ := Aside0.mk (hbox); have n3_ := Aside0.mk ((qq42 : w.heap.size ≤ gb194)); have n4_ := Aside0.mk ((Nat.le_trans HW0.out (qq42 : w.heap.size ≤ gb194) : w0.heap.size ≤ gb194)); clear HBW; clear HB; have HBW := n0_; have HB := n1_; have BK194 := n2_; have GW194 := n3_; have GE194 := n4_; clear n0_ n1_ n2_ n3_ n4_; clear hb hbox hg))
    go_ret
    exact ⟨_, rfl, (show IsS61 w0 _ gb194 l0 0 from ⟨_, _, qq27 BK194.out, GE194.out, HR0.out⟩), qq4 HB.out GE194.out, qq4 HBW.out GW194.out⟩

end Go.Proofs.Ytmcfhmflncghiaa.Q
namespace Go.Proofs.Ytmcfhmflncghiaa.Q
open Go.RowKit Go.Proofs.YtmcfhmflncghiaaW.PrintWords Go.Proofs.YtmcfhmflncghiaaW.PrintLast Go.Proofs.YtmcfhmflncghiaaW.PrintMore
attribute [local go_sem] max2_int min2_int max_two min_two max_three min_three max_four min_four
set_option linter.unusedVariables false
set_option linter.unusedSimpArgs false

/-! ### spec_l91Lengths: function 35 -/
def spec_l91Lengths.l0 : Nat → List Int → Int → Int → List Int → Int → Option (List Int × Int)
  | 0, _, _, _, _, _ => none
  | k + 1, x3, x4, x5, x1000, x1001 => if x5 < x4 then ((spec_l6Rd_pick.f k x1000 x1001 9).bind fun bt571 => (if x3.length < 17592186044416 then (spec_l91Lengths.l0 k (x3 ++ [bt571.1]) x4 (wrap64 (x5 + 1)) x1000 bt571.2) else (none))) else ((spec_l6Rd_pick.f k x1000 x1001 x4).bind fun bt576 => ((spec_l6Rd_pick.f k x1000 bt576.2 5).bind fun bt578 => (if 0 ≤ bt576.1 then (if bt576.1 < (x3.length : Int) then ((some (x3.set (bt576.1 : Int).toNat (wrap64 (1 + bt578.1)) : List Int)).bind fun y580 => ((spec_l6Rd_pick.f k x1000 bt578.2 40).bind fun bt581 => (if bt581.1 = 0 then ((some (([(-1), 10001] : List Int) : List Int)).bind fun y583 => ((spec_l6Rd_pick.f k x1000 bt581.2 2).bind fun bt586 => (if 0 ≤ bt586.1 then (if bt586.1 < (y583.length : Int) then (if 0 < (x3.length : Int) then (some ((y580.set (0 : Int).toNat (rd y583 bt586.1)), bt586.2)) else (none)) else (none)) else (none)))) else (if bt581.1 = 1 then (if 0 ≤ x4 then (if (x4 : Int).toNat ≤ 35184372088832 then (some ((List.replicate (x4 : Int).toNat 0), bt581.2)) else (none)) else (none)) else (if bt581.1 = 2 then (some ((([] : List Int)), bt581.2)) else (some (y580, bt581.2))))))) else (none)) else (none))))
def spec_l91Lengths.f (k : Nat) (s0_0 : List Int) (s0_1 : Int) : Option (List Int × Int) := (spec_l6Rd_pick.f k s0_0 s0_1 6).bind fun bt569 => (spec_l91Lengths.l0 k (([] : List Int)) (wrap64 (1 + bt569.1)) 0 s0_0 bt569.2)
set_option maxHeartbeats 8000000 in
set_option maxRecDepth 100000 in
theorem spec_l91Lengths.calls (k : Nat) (g : Nat) (s0_0 : List Int) (s0_1 : Int) (r1 : List Int) (r2 : Int) (w0 w : World) (hI : IsS61 w0 w g s0_0 s0_1) (hB : Below w0.heap.size w0 w) (h : spec_l91Lengths.f k s0_0 s0_1 = some (r1, r2)) :
    Calls Try.prog 35 #[.pointer (some ⟨g, 0, none⟩)] w fun e w' => ∃ v0_ : Value, e = .returned (v0_) ∧ Kd.R (Kd.int .i64) 3 w' w.heap.size (fun _ => True) v0_ r1 ∧ IsS61 w0 w' g s0_0 r2 ∧ Below w0.heap.size w0 w' ∧ KeepBut w w' g none := by
  have HI0 := Aside0.mk hI
  have HK := Aside0.mk (KeepBut.refl w g none)
  have HL := Aside0.mk hB.size
  clear hI
  have HW0 := Aside0.mk hB.size
  have HB := Aside0.mk hB
  clear hB
  have H : ((spec_l6Rd_pick.f k s0_0 s0_1 6).bind fun bt569 => (spec_l91Lengths.l0 k (([] : List Int)) (wrap64 (1 + bt569.1)) 0 s0_0 bt569.2)) = some (r1, r2) := h
  clear h
  obtain ⟨y566, hy566⟩ : ∃ y_ : List Int, y_ = (([] : List Int)) := ⟨_, rfl⟩
  replace H : ((spec_l6Rd_pick.f k s0_0 s0_1 6).bind fun bt569 => (spec_l91Lengths.l0 k y566 (wrap64 (1 + bt569.1)) 0 s0_0 bt569.2)) = some (r1, r2) := by first | (rw [hy566]; with_reducible exact H) | (have H2_ := (Option.bind_some _ _).symm.trans H; rw [hy566]; with_reducible exact H2_) | (have H2_ := (Option.bind_some _ _).symm.trans H; with_reducible exact H2_) | with_reducible exact H | (rw [hy566]; exact H) | exact H
  have Ny566 := Aside0.mk hy566
  clear hy566
  replace H := Option.bind_eq_some_iff.mp H
  obtain ⟨⟨t569, t570⟩, A20, H⟩ := H
  replace H : (spec_l91Lengths.l0 k y566 (wrap64 (1 + t569)) 0 s0_0 t570) = some (r1, r2) := H
  have A2 := Aside0.mk A20
  clear A20
  have H' := Aside0.mk H
  clear H
  go_enter Try.func35, Try.ntmps35
  go_wp2_with (first | ((with_reducible refine gate_dst (N := 6) rfl ?_); refine Kd.R_lit (Kd.int .i64) _ 3 ?hg (N := 6) ?hd (xs := ([] : List Int)) (inner := []) (ok := fun _ => True) (okp := fun _ => True) ?hr ?hp (fun _ hk => hk) trivial (Below.refl _ _) (Nat.le_refl _) (by simp) ?_; (case hd => rfl); (case hg => rfl); (case hr => exact qq17); (case hp => exact (Reps.none _ _)); intro v567 w3 ho4 hb hg_ hnew_; clear hg_ hnew_; (first | rw [← Ny566.out] at ho4 | (simp only [Int.reduceToNat] at ho4; rw [← Ny566.out] at ho4)); have n0_ := Aside0.mk (Kd.R_lower ho4 (keep_size (w := w) (g := g) (row := none) qq11)); have n1_ := Aside0.mk (IsS61.below (qq8 HI0.out) hb); have n2_ := Aside0.mk (KeepBut.trans qq11 (KeepBut.of_below hb g none) (.inl rfl)); have n3_ := Aside0.mk (below_step (qq7 HB.out HI0.out) hb); clear HI0; clear HK; clear HB; have HO568 := n0_; have HI0 := n1_; have HK := n2_; have HB := n3_; clear n0_ n1_ n2_ n3_; clear hb ho4) | ((with_reducible refine gate_callee (f := 36) rfl ?_); refine goesL_ (some 8) rfl rfl Try.func36 (by kernel_rfl) rfl #[.pointer (some ⟨g, 0, none⟩), .int .i64 6] rfl qq5 ?_; (with_reducible refine (spec_l6Rd_pick.calls k g s0_0 s0_1 6 t569 t570 w0 _ ?side1 ?side2 A2.out).mono ?_); (case side1 => exact qq8 HI0.out); (case side2 => exact qq7 HB.out HI0.out); rintro e w5 ⟨rfl, hi, hb, hk⟩; refine ⟨_, rfl, ?_⟩; have n0_ := Aside0.mk (Kd.R_mono (Kd.R_keep (IsS61.apart (show IsS61 w0 _ g s0_0 s0_1 from by repeat (first | (with_reducible first | exact HI0.out | apply IsS61.alloc | apply IsS61.drewN | apply IsS61.drew | apply IsS61.set_1) | exact HI0.out)) (qq2 HO568.out) (by decide)) hk (fun _ h => h.2)) (fun _ h => h.1)); have n1_ := Aside0.mk (KeepBut.trans qq11 hk (.inl rfl)); have n2_ := Aside0.mk (hb); have n3_ := Aside0.mk (hi); clear HO568; clear HK; clear HB; clear HI0; have HO568 := n0_; have HK := n1_; have HB := n2_; have HI0 := n3_; clear n0_ n1_ n2_ n3_; (try clear hb); (try clear hb2); (try clear hk); (try clear hi)))
  go_loopg [3, 5] k (fun kq v3 v5 w' => ∃ (x3_1 : List Int) (x5_1 : Int) (x1001_1 : Int), v5 = .int .i64 x5_1 ∧ Aside0 (spec_l91Lengths.l0 kq x3_1 (wrap64 (1 + t569)) x5_1 s0_0 x1001_1 = some (r1, r2)) ∧ Aside0 (kq ≤ k) ∧ Aside0 (Kd.R (Kd.int .i64) 3 w' w.heap.size (fun _ => True) v3 x3_1) ∧ Aside0 (IsS61 w0 w' g s0_0 x1001_1) ∧ Aside0 (KeepBut w w' g none) ∧ Aside0 (Below w0.heap.size w0 w'))
  case atStart => exact ⟨(y566), (0), (t570), qq9, H', ⟨Nat.le_refl _⟩, ⟨qq2 HO568.out⟩, ⟨qq8 HI0.out⟩, ⟨qq11⟩, ⟨qq7 HB.out HI0.out⟩⟩
  case round =>
    clear H'
    try clear p2
    try clear c3
    obtain ⟨x3_1, x5_1, x1001_1, rfl, HA, HK1, HO_3, HI0, HK, HB⟩ := hrel
    cases gk with
    | zero => exact absurd HA.out (by simp [spec_l91Lengths.l0])
    | succ k1 =>
      have H := HA.out
      clear HA
      simp only [spec_l91Lengths.l0] at H
      by_cases c6 : x5_1 < (wrap64 (1 + t569))
      · rw [if_pos c6] at H
        have c6b0 : decide (x5_1 < (wrap64 (1 + t569))) = true := decide_eq_true c6
        clear c6
        replace H := Option.bind_eq_some_iff.mp H
        obtain ⟨⟨t571, t572⟩, A70, H⟩ := H
        replace H : (if x3_1.length < 17592186044416 then (spec_l91Lengths.l0 k1 (x3_1 ++ [t571]) (wrap64 (1 + t569)) (wrap64 (x5_1 + 1)) s0_0 t572) else (none)) = some (r1, r2) := H
        have A7 := Aside0.mk A70
        clear A70
        by_cases c8 : x3_1.length < 17592186044416
        · rw [if_pos c8] at H
          have LMc8 := Aside0.mk c8
          clear c8
          obtain ⟨y573, hy573⟩ : ∃ y_ : List Int, y_ = (x3_1 ++ [t571]) := ⟨_, rfl⟩
          replace H : (spec_l91Lengths.l0 k1 y573 (wrap64 (1 + t569)) (wrap64 (x5_1 + 1)) s0_0 t572) = some (r1, r2) := by first | (rw [hy573]; with_reducible exact H) | (have H2_ := (Option.bind_some _ _).symm.trans H; rw [hy573]; with_reducible exact H2_) | (have H2_ := (Option.bind_some _ _).symm.trans H; with_reducible exact H2_) | with_reducible exact H | (rw [hy573]; exact H) | exact H
          have Ny573 := Aside0.mk hy573
          clear hy573
          have H' := Aside0.mk H
          clear H
          go_wp2_with (first | ((with_reducible refine gate_callee (f := 36) rfl ?_); refine goesL_ (some 17) rfl rfl Try.func36 (by kernel_rfl) rfl #[.pointer (some ⟨g, 0, none⟩), .int .i64 9] rfl qq5 ?_; (with_reducible refine (spec_l6Rd_pick.calls k1 g s0_0 x1001_1 9 t571 t572 w0 _ ?side1 ?side2 A7.out).mono ?_); (case side1 => exact qq8 HI0.out); (case side2 => exact qq7 HB.out HI0.out); rintro e w9 ⟨rfl, hi, hb, hk⟩; refine ⟨_, rfl, ?_⟩; have n0_ := Aside0.mk (Kd.R_mono (Kd.R_keep (IsS61.apart (show IsS61 w0 _ g s0_0 x1001_1 from by repeat (first | (with_reducible first | exact HI0.out | apply IsS61.alloc | apply IsS61.drewN | apply IsS61.drew | apply IsS61.set_1) | exact HI0.out)) (qq2 HO_3.out) (by decide)) hk (fun _ h => h.2)) (fun _ h => h.1)); have n1_ := Aside0.mk (KeepBut.trans qq11 hk (.inl rfl)); have n2_ := Aside0.mk (hb); have n3_ := Aside0.mk (hi); clear HO_3; clear HK; clear HB; clear HI0; have HO_3 := n0_; have HK := n1_; have HB := n2_; have HI0 := n3_; clear n0_ n1_ n2_ n3_; (try clear hb); (try clear hb2); (try clear hk); (try clear hi)) | ((with_reducible refine gate_builtin (b := .append) (xs := #[.tmp 15, .tmp 18]) rfl ?_); at_builtin; refine Kd.R_append (Kd.int .i64) w.heap.size rfl (.tmp 15) (.tmp 18) 27 3 (.int .i64 0) 8 rfl Try.underlying27 info3 rfl (by decide) (by omega) u3 x3_1 t571 [.int .i64 t571] (fun _ => True) (fun _ => False) rfl rfl ?aP (fun _ hk => hk.elim) ?aF ?aO (Below.refl _ _) ?aS ?aL ?_; (case aP => exact rfl); (case aF => exact (fun _ _ => trivial)); (case aO => exact (qq2 HO_3.out)); (case aS => exact (keep_size (w := w) (g := g) (row := none) qq11)); (case aL => have := LMc8.out; omega); intro v574 w10 ho hb hg hat; rw [← Ny573.out] at ho; have n0_ := Aside0.mk (IsS61.grown (qq8 HI0.out) hg (IsS61.own_ne HI0.out HO_3.out (by decide))); have n1_ := Aside0.mk (below_weaken (qq7 HB.out HI0.out) HL.out hb); have n2_ := Aside0.mk (KeepBut.trans qq11 (KeepBut.of_grown hg g) (Kd.R_base2 HO_3.out)); have n3_ := Aside0.mk (ho); clear HI0; clear HB; clear HK; clear HO_3; have HI0 := n0_; have HB := n1_; have HK := n2_; have HO575 := n3_; clear n0_ n1_ n2_ n3_; clear ho hb hg hat))
          go_roundg k1
          case measure => have := HK1.out; omega
          case rel => exact ⟨(y573), (wrap64 (x5_1 + 1)), (t572), qq9, H', ⟨by have := HK1.out; omega⟩, ⟨qq2 HO575.out⟩, ⟨qq8 HI0.out⟩, ⟨qq11⟩, ⟨qq7 HB.out HI0.out⟩⟩
        · rw [if_neg c8] at H
          exact absurd H (by simp)
      · rw [if_neg c6] at H
        have c6b0 : decide (x5_1 < (wrap64 (1 + t569))) = false := decide_eq_false c6
        clear c6
        replace H := Option.bind_eq_some_iff.mp H
        obtain ⟨⟨t576, t577⟩, A110, H⟩ := H
        replace H : ((spec_l6Rd_pick.f k1 s0_0 t577 5).bind fun bt578 => (if 0 ≤ t576 then (if t576 < (x3_1.length : Int) then ((some (x3_1.set (t576 : Int).toNat (wrap64 (1 + bt578.1)) : List Int)).bind fun y580 => ((spec_l6Rd_pick.f k1 s0_0 bt578.2 40).bind fun bt581 => (if bt581.1 = 0 then ((some (([(-1), 10001] : List Int) : List Int)).bind fun y583 => ((spec_l6Rd_pick.f k1 s0_0 bt581.2 2).bind fun bt586 => (if 0 ≤ bt586.1 then (if bt586.1 < (y583.length : Int) then (if 0 < (x3_1.length : Int) then (some ((y580.set (0 : Int).toNat (rd y583 bt586.1)), bt586.2)) else (none)) else (none)) else (none)))) else (if bt581.1 = 1 then (if 0 ≤ (wrap64 (1 + t569)) then (if ((wrap64 (1 + t569)) : Int).toNat ≤ 35184372088832 then (some ((List.replicate ((wrap64 (1 + t569)) : Int).toNat 0), bt581.2)) else (none)) else (none)) else (if bt581.1 = 2 then (some ((([] : List Int)), bt581.2)) else (some (y580, bt581.2))))))) else (none)) else (none))) = some (r1, r2) := H
        have A11 := Aside0.mk A110
        clear A110
        replace H := Option.bind_eq_some_iff.mp H
        obtain ⟨⟨t578, t579⟩, A120, H⟩ := H
        replace H : (if 0 ≤ t576 then (if t576 < (x3_1.length : Int) then ((some (x3_1.set (t576 : Int).toNat (wrap64 (1 + t578)) : List Int)).bind fun y580 => ((spec_l6Rd_pick.f k1 s0_0 t579 40).bind fun bt581 => (if bt581.1 = 0 then ((some (([(-1), 10001] : List Int) : List Int)).bind fun y583 => ((spec_l6Rd_pick.f k1 s0_0 bt581.2 2).bind fun bt586 => (if 0 ≤ bt586.1 then (if bt586.1 < (y583.length : Int) then (if 0 < (x3_1.length : Int) then (some ((y580.set (0 : Int).toNat (rd y583 bt586.1)), bt586.2)) else (none)) else (none)) else (none)))) else (if bt581.1 = 1 then (if 0 ≤ (wrap64 (1 + t569)) then (if ((wrap64 (1 + t569)) : Int).toNat ≤ 35184372088832 then (some ((List.replicate ((wrap64 (1 + t569)) : Int).toNat 0), bt581.2)) else (none)) else (none)) else (if bt581.1 = 2 then (some ((([] : List Int)), bt581.2)) else (some (y580, bt581.2))))))) else (none)) else (none)) = some (r1, r2) := H
        have A12 := Aside0.mk A120
        clear A120
        by_cases c13 : 0 ≤ t576
        · rw [if_pos c13] at H
          have c13b0 : decide (0 ≤ t576) = true := decide_eq_true c13
          clear c13
          by_cases c14 : t576 < (x3_1.length : Int)
          · rw [if_pos c14] at H
            have c14b0 : decide (t576 < (x3_1.length : Int)) = true := decide_eq_true c14
            clear c14
            obtain ⟨y580, hy580⟩ : ∃ y_ : List Int, y_ = (x3_1.set (t576 : Int).toNat (wrap64 (1 + t578))) := ⟨_, rfl⟩
            replace H : ((spec_l6Rd_pick.f k1 s0_0 t579 40).bind fun bt581 => (if bt581.1 = 0 then ((some (([(-1), 10001] : List Int) : List Int)).bind fun y583 => ((spec_l6Rd_pick.f k1 s0_0 bt581.2 2).bind fun bt586 => (if 0 ≤ bt586.1 then (if bt586.1 < (y583.length : Int) then (if 0 < (x3_1.length : Int) then (some ((y580.set (0 : Int).toNat (rd y583 bt586.1)), bt586.2)) else (none)) else (none)) else (none)))) else (if bt581.1 = 1 then (if 0 ≤ (wrap64 (1 + t569)) then (if ((wrap64 (1 + t569)) : Int).toNat ≤ 35184372088832 then (some ((List.replicate ((wrap64 (1 + t569)) : Int).toNat 0), bt581.2)) else (none)) else (none)) else (if bt581.1 = 2 then (some ((([] : List Int)), bt581.2)) else (some (y580, bt581.2)))))) = some (r1, r2) := by first | (rw [hy580]; with_reducible exact H) | (have H2_ := (Option.bind_some _ _).symm.trans H; rw [hy580]; with_reducible exact H2_) | (have H2_ := (Option.bind_some _ _).symm.trans H; with_reducible exact H2_) | with_reducible exact H | (rw [hy580]; exact H) | exact H
            have Ny580 := Aside0.mk hy580
            clear hy580
            replace H := Option.bind_eq_some_iff.mp H
            obtain ⟨⟨t581, t582⟩, A160, H⟩ := H
            replace H : (if t581 = 0 then ((some (([(-1), 10001] : List Int) : List Int)).bind fun y583 => ((spec_l6Rd_pick.f k1 s0_0 t582 2).bind fun bt586 => (if 0 ≤ bt586.1 then (if bt586.1 < (y583.length : Int) then (if 0 < (x3_1.length : Int) then (some ((y580.set (0 : Int).toNat (rd y583 bt586.1)), bt586.2)) else (none)) else (none)) else (none)))) else (if t581 = 1 then (if 0 ≤ (wrap64 (1 + t569)) then (if ((wrap64 (1 + t569)) : Int).toNat ≤ 35184372088832 then (some ((List.replicate ((wrap64 (1 + t569)) : Int).toNat 0), t582)) else (none)) else (none)) else (if t581 = 2 then (some ((([] : List Int)), t582)) else (some (y580, t582))))) = some (r1, r2) := H
            have A16 := Aside0.mk A160
            clear A160
            by_cases c17 : t581 = 0
            · rw [if_pos c17] at H
              have c17b0 : (t581 == 0) = true := beq_iff_eq.mpr c17
              have c17b1 : (t581 != 0) = false := bne_eq_false_iff_eq.mpr c17
              clear c17
              obtain ⟨y583, hy583⟩ : ∃ y_ : List Int, y_ = (([(-1), 10001] : List Int)) := ⟨_, rfl⟩
              replace H : ((spec_l6Rd_pick.f k1 s0_0 t582 2).bind fun bt586 => (if 0 ≤ bt586.1 then (if bt586.1 < (y583.length : Int) then (if 0 < (x3_1.length : Int) then (some ((y580.set (0 : Int).toNat (rd y583 bt586.1)), bt586.2)) else (none)) else (none)) else (none))) = some (r1, r2) := by first | (rw [hy583]; with_reducible exact H) | (have H2_ := (Option.bind_some _ _).symm.trans H; rw [hy583]; with_reducible exact H2_) | (have H2_ := (Option.bind_some _ _).symm.trans H; with_reducible exact H2_) | with_reducible exact H | (rw [hy583]; exact H) | exact H
              have Ny583 := Aside0.mk hy583
              clear hy583
              replace H := Option.bind_eq_some_iff.mp H
              obtain ⟨⟨t586, t587⟩, A180, H⟩ := H
              replace H : (if 0 ≤ t586 then (if t586 < (y583.length : Int) then (if 0 < (x3_1.length : Int) then (some ((y580.set (0 : Int).toNat (rd y583 t586)), t587)) else (none)) else (none)) else (none)) = some (r1, r2) := H
              have A18 := Aside0.mk A180
              clear A180
              by_cases c19 : 0 ≤ t586
              · rw [if_pos c19] at H
                have c19b0 : decide (0 ≤ t586) = true := decide_eq_true c19
                clear c19
                by_cases c20 : t586 < (y583.length : Int)
                · rw [if_pos c20] at H
                  have c20b0 : decide (t586 < (y583.length : Int)) = true := decide_eq_true c20
                  clear c20
                  by_cases c21 : 0 < (x3_1.length : Int)
                  · rw [if_pos c21] at H
                    have c21b0 : decide (0 < (x3_1.length : Int)) = true := decide_eq_true c21
                    have c21b1 : decide (0 < x3_1.length) = true := decide_eq_true (by omega)
                    clear c21
                    obtain ⟨y589, hy589⟩ : ∃ y_ : List Int, y_ = (y580.set (0 : Int).toNat (rd y583 t586)) := ⟨_, rfl⟩
                    replace H : (some (y589, t587)) = some (r1, r2) := by first | (rw [hy589]; with_reducible exact H) | (have H2_ := (Option.bind_some _ _).symm.trans H; rw [hy589]; with_reducible exact H2_) | (have H2_ := (Option.bind_some _ _).symm.trans H; with_reducible exact H2_) | with_reducible exact H | (rw [hy589]; exact H) | exact H
                    have Ny589 := Aside0.mk hy589
                    clear hy589
                    simp only [Option.some.injEq, Prod.mk.injEq] at H
                    obtain ⟨rfl, rfl⟩ := H
                    go_wp2_with (first | ((with_reducible refine gate_callee (f := 36) rfl ?_); refine goesL_ (some 23) rfl rfl Try.func36 (by kernel_rfl) rfl #[.pointer (some ⟨g, 0, none⟩), .int .i64 (wrap64 (1 + t569))] rfl qq5 ?_; (with_reducible refine (spec_l6Rd_pick.calls k1 g s0_0 x1001_1 (wrap64 (1 + t569)) t576 t577 w0 _ ?side1 ?side2 A11.out).mono ?_); (case side1 => exact qq8 HI0.out); (case side2 => exact qq7 HB.out HI0.out); rintro e w23 ⟨rfl, hi, hb, hk⟩; refine ⟨_, rfl, ?_⟩; have n0_ := Aside0.mk (Kd.R_mono (Kd.R_keep (IsS61.apart (show IsS61 w0 _ g s0_0 x1001_1 from by repeat (first | (with_reducible first | exact HI0.out | apply IsS61.alloc | apply IsS61.drewN | apply IsS61.drew | apply IsS61.set_1) | exact HI0.out)) (qq2 HO_3.out) (by decide)) hk (fun _ h => h.2)) (fun _ h => h.1)); have n1_ := Aside0.mk (KeepBut.trans qq11 hk (.inl rfl)); have n2_ := Aside0.mk (hb); have n3_ := Aside0.mk (hi); clear HO_3; clear HK; clear HB; clear HI0; have HO_3 := n0_; have HK := n1_; have HB := n2_; have HI0 := n3_; clear n0_ n1_ n2_ n3_; (try clear hb); (try clear hb2); (try clear hk); (try clear hi)) | ((with_reducible refine gate_callee (f := 36) rfl ?_); refine goesL_ (some 25) rfl rfl Try.func36 (by kernel_rfl) rfl #[.pointer (some ⟨g, 0, none⟩), .int .i64 5] rfl qq5 ?_; (with_reducible refine (spec_l6Rd_pick.calls k1 g s0_0 t577 5 t578 t579 w0 _ ?side1 ?side2 A12.out).mono ?_); (case side1 => exact qq8 HI0.out); (case side2 => exact qq7 HB.out HI0.out); rintro e w24 ⟨rfl, hi, hb, hk⟩; refine ⟨_, rfl, ?_⟩; have n0_ := Aside0.mk (Kd.R_mono (Kd.R_keep (IsS61.apart (show IsS61 w0 _ g s0_0 t577 from by repeat (first | (with_reducible first | exact HI0.out | apply IsS61.alloc | apply IsS61.drewN | apply IsS61.drew | apply IsS61.set_1) | exact HI0.out)) (qq2 HO_3.out) (by decide)) hk (fun _ h => h.2)) (fun _ h => h.1)); have n1_ := Aside0.mk (KeepBut.trans qq11 hk (.inl rfl)); have n2_ := Aside0.mk (hb); have n3_ := Aside0.mk (hi); clear HO_3; clear HK; clear HB; clear HI0; have HO_3 := n0_; have HK := n1_; have HB := n2_; have HI0 := n3_; clear n0_ n1_ n2_ n3_; (try clear hb); (try clear hb2); (try clear hk); (try clear hi); have p15 : 0 ≤ (t576 : Int) := of_decide_eq_true qq3; have q15 : (t576 : Int) < ((x3_1.length : Int) : Int) := of_decide_eq_true qq3; obtain ⟨go15, co15, eo15, gb15, gl15, cl15, HG15⟩ := Kd.R_form HO_3.out (by omega); (first | cases eo15 | (injection eo15 with ea_ en_ ec_; (first | subst ea_ | (injection ea_ with ea_; subst ea_)); subst ec_; clear en_)); have GB15 := Aside0.mk gb15; have GG15 := Aside0.mk HG15; clear gb15 gl15 HG15; obtain ⟨hx15_0, hf15_0⟩ := Kd.R_celln 0 HO_3.out (t576 : Int) p15 q15; replace p15 := eq_true p15; replace q15 := eq_true q15; obtain ⟨hy25_, hz25_⟩ := Kd.R_celln 0 HO_3.out (t576 : Int) (of_decide_eq_true qq3) (of_decide_eq_true qq3); have HP25 := Kd.R_putg HO_3.out (t576 : Int) (wrap64 (1 + t578))) | ((with_reducible refine gate_store (t := 3) (p := 27) rfl ?_); refine store_event (t := 3) (p := 27) (v := ?vo_w26) (w1 := (w24.setCell ⟨go15, (t576 : Int).toNat, none⟩ (.int .i64 (wrap64 (1 + t578))))) ?hg ?ho ?hn ?hr ?_; (case ho => rfl); (case hg => rfl); (case hn => rfl); (case hr => exact qq17); intro w26 hw; have hg : w24.grownBy w26 (some go15) := (by rw [hw]; exact HP25.2); have hp_ : Kd.R (Kd.int .i64) 3 w26 w.heap.size (fun _ => True) (.slice (some ⟨go15, 0, none⟩) x3_1.length co15) y580 := (by rw [hw, Ny580.out]; exact HP25.1); clear HP25; have n0_ := Aside0.mk (hp_); have n1_ := Aside0.mk (IsS61.grown (qq8 HI0.out) hg (IsS61.own_ne HI0.out HO_3.out (by decide))); have n2_ := Aside0.mk ((qq49 : Below w0.heap.size w0 w26)); have n3_ := Aside0.mk (KeepBut.trans qq11 (KeepBut.of_grown hg g) (Kd.R_base2 HO_3.out)); clear HO_3; clear HI0; clear HB; clear HK; have HO_3 := n0_; have HI0 := n1_; have HB := n2_; have HK := n3_; clear n0_ n1_ n2_ n3_; clear hg hw hp_) | ((with_reducible refine gate_callee (f := 36) rfl ?_); refine goesL_ (some 29) rfl rfl Try.func36 (by kernel_rfl) rfl #[.pointer (some ⟨g, 0, none⟩), .int .i64 40] rfl qq5 ?_; (with_reducible refine (spec_l6Rd_pick.calls k1 g s0_0 t579 40 t581 t582 w0 _ ?side1 ?side2 A16.out).mono ?_); (case side1 => exact qq8 HI0.out); (case side2 => exact qq7 HB.out HI0.out); rintro e w27 ⟨rfl, hi, hb, hk⟩; refine ⟨_, rfl, ?_⟩; have n0_ := Aside0.mk (Kd.R_mono (Kd.R_keep (IsS61.apart (show IsS61 w0 _ g s0_0 t579 from by repeat (first | (with_reducible first | exact HI0.out | apply IsS61.alloc | apply IsS61.drewN | apply IsS61.drew | apply IsS61.set_1) | exact HI0.out)) (qq2 HO_3.out) (by decide)) hk (fun _ h => h.2)) (fun _ h => h.1)); have n1_ := Aside0.mk (KeepBut.trans qq11 hk (.inl rfl)); have n2_ := Aside0.mk (hb); have n3_ := Aside0.mk (hi); clear HO_3; clear HK; clear HB; clear HI0; have HO_3 := n0_; have HK := n1_; have HB := n2_; have HI0 := n3_; clear n0_ n1_ n2_ n3_; (try clear hb); (try clear hb2); (try clear hk); (try clear hi)) | ((with_reducible refine gate_dst (N := 33) rfl ?_); refine Kd.R_lit (Kd.int .i64) _ 3 ?hg (N := 33) ?hd (xs := ([(-1), 10001] : List Int)) (inner := [.int .i64 (-1), .int .i64 10001]) (ok := fun _ => True) (okp := fun _ => True) ?hr ?hp (fun _ hk => hk) trivial (Below.refl _ _) (Nat.le_refl _) (by simp) ?_; (case hd => rfl); (case hg => rfl); (case hr => exact qq17); (case hp => exact (Reps.one (show Kd.M (Kd.int .i64) _ _ _ (-1) [.int .i64 (-1)] from rfl) (Reps.one (show Kd.M (Kd.int .i64) _ _ _ 10001 [.int .i64 10001] from rfl) (Reps.none _ _)))); intro v584 w28 ho29 hb hg_ hnew_; clear hg_ hnew_; (first | rw [← Ny583.out] at ho29 | (simp only [Int.reduceToNat] at ho29; rw [← Ny583.out] at ho29)); have n0_ := Aside0.mk (Kd.R_elder' (qq2 HO_3.out) (Kd.R_base ho29) hb); have n1_ := Aside0.mk (Kd.R_lower (Kd.R_new' ho29 (Kd.R_lt (qq2 HO_3.out))) (keep_size (w := w) (g := g) (row := none) qq11)); have n2_ := Aside0.mk (IsS61.below (qq8 HI0.out) hb); have n3_ := Aside0.mk (KeepBut.trans qq11 (KeepBut.of_below hb g none) (.inl rfl)); have n4_ := Aside0.mk (below_step (qq7 HB.out HI0.out) hb); clear HO_3; clear HI0; clear HK; clear HB; have HO_3 := n0_; have HO585 := n1_; have HI0 := n2_; have HK := n3_; have HB := n4_; clear n0_ n1_ n2_ n3_ n4_; clear hb ho29) | ((with_reducible refine gate_callee (f := 36) rfl ?_); refine goesL_ (some 35) rfl rfl Try.func36 (by kernel_rfl) rfl #[.pointer (some ⟨g, 0, none⟩), .int .i64 2] rfl qq5 ?_; (with_reducible refine (spec_l6Rd_pick.calls k1 g s0_0 t582 2 t586 t587 w0 _ ?side1 ?side2 A18.out).mono ?_); (case side1 => exact qq8 HI0.out); (case side2 => exact qq7 HB.out HI0.out); rintro e w30 ⟨rfl, hi, hb, hk⟩; refine ⟨_, rfl, ?_⟩; have n0_ := Aside0.mk (Kd.R_mono (Kd.R_keep (IsS61.apart (show IsS61 w0 _ g s0_0 t582 from by repeat (first | (with_reducible first | exact HI0.out | apply IsS61.alloc | apply IsS61.drewN | apply IsS61.drew | apply IsS61.set_1) | exact HI0.out)) (qq2 HO_3.out) (by decide)) hk (fun _ h => h.2)) (fun _ h => h.1)); have n1_ := Aside0.mk (Kd.R_mono (Kd.R_keep (IsS61.apart (show IsS61 w0 _ g s0_0 t582 from by repeat (first | (with_reducible first | exact HI0.out | apply IsS61.alloc | apply IsS61.drewN | apply IsS61.drew | apply IsS61.set_1) | exact HI0.out)) (qq2 HO585.out) (by decide)) hk (fun _ h => h.2)) (fun _ h => h.1)); have n2_ := Aside0.mk (KeepBut.trans qq11 hk (.inl rfl)); have n3_ := Aside0.mk (hb); have n4_ := Aside0.mk (hi); clear HO_3; clear HO585; clear HK; clear HB; clear HI0; have HO_3 := n0_; have HO585 := n1_; have HK := n2_; have HB := n3_; have HI0 := n4_; clear n0_ n1_ n2_ n3_ n4_; (try clear hb); (try clear hb2); (try clear hk); (try clear hi); obtain ⟨Ao31, co31, eo31⟩ := Kd.R_slice HO585.out; subst eo31; have p588 : 0 ≤ (t586 : Int) := of_decide_eq_true qq3; have q588 : t586 < (y583.length : Int) := of_decide_eq_true qq3; obtain ⟨ad588, e588, hx588_0⟩ := Kd.at_int (Kd.R_reads' HO585.out).2.2 t586 p588 q588; cases e588; replace p588 := eq_true p588; replace q588 := eq_true q588; have p22 : 0 ≤ (0 : Int) := (by omega); have q22 : (0 : Int) < ((x3_1.length : Int) : Int) := of_decide_eq_true qq3; have qi22 : (0 < x3_1.length) = True := eq_true (by omega); obtain ⟨hx22_0, hf22_0⟩ := Kd.R_celln 0 HO_3.out (0 : Int) p22 q22; (try rw [show ((0 : Int)).toNat = 0 from rfl] at hx22_0); (try simp only [Nat.reduceMul, Nat.zero_mul, Nat.zero_add, Nat.reduceAdd] at hx22_0); (try rw [show ((0 : Int)).toNat = 0 from rfl] at hf22_0); (try simp only [Nat.reduceMul, Nat.zero_mul, Nat.zero_add, Nat.reduceAdd] at hf22_0); replace p22 := eq_true p22; replace q22 := eq_true q22; have n_ := Aside0.mk (Kd.R_mono (ok' := (fun k_ => some k_ ≠ (.slice (some ad588) y583.length co31 : Value).ownBlock)) HO_3.out (fun k_ hk => hk.2)); clear HO_3; have HO_3 := n_; clear n_; obtain ⟨hy32_, hz32_⟩ := Kd.R_celln 0 HO_3.out (0 : Int) (by omega) (of_decide_eq_true qq3); (try simp only [Int.reduceToNat, Int.toNat_zero, Int.toNat_ofNat, Nat.reduceMul, Nat.zero_mul, Nat.zero_add] at hy32_ hz32_); (try rw [show ((0 : Int)).toNat = 0 from rfl] at hy32_); (try rw [show ((0 : Int)).toNat = 0 from rfl] at hz32_); have HP32 := Kd.R_putg HO_3.out (0 : Int) (rd y583 t586)) | ((with_reducible refine gate_store (t := 3) (p := 38) rfl ?_); refine store_event (t := 3) (p := 38) (v := ?vo_w33) (w1 := (w30.setCell ⟨go15, (0 : Int).toNat, none⟩ (.int .i64 (rd y583 t586)))) ?hg ?ho ?hn ?hr ?_; (case ho => rfl); (case hg => rfl); (case hn => rfl); (case hr => exact qq17); intro w33 hw; have hg : w30.grownBy w33 (some go15) := (by rw [hw]; exact HP32.2); have hp_ : Kd.R (Kd.int .i64) 3 w33 w.heap.size (fun k_ => some k_ ≠ (.slice (some ad588) y583.length co31 : Value).ownBlock) (.slice (some ⟨go15, 0, none⟩) x3_1.length co15) y589 := (by rw [hw, Ny589.out]; exact HP32.1); clear HP32; have n0_ := Aside0.mk (hp_); have n1_ := Aside0.mk (IsS61.grown (qq8 HI0.out) hg (IsS61.own_ne HI0.out HO_3.out (by decide))); have n2_ := Aside0.mk (Kd.R_after (v := (.slice (some ⟨go15, 0, none⟩) x3_1.length co15)) (v1 := (.slice (some ⟨go15, 0, none⟩) x3_1.length co15)) (ok := (fun _ => True)) (qq2 HO585.out) hg (.inl rfl)); have n3_ := Aside0.mk ((qq49 : Below w0.heap.size w0 w33)); have n4_ := Aside0.mk (KeepBut.trans qq11 (KeepBut.of_grown hg g) (Kd.R_base2 HO_3.out)); clear HO_3; clear HI0; clear HO585; clear HB; clear HK; have HO_3 := n0_; have HI0 := n1_; have HO585 := n2_; have HB := n3_; have HK := n4_; clear n0_ n1_ n2_ n3_ n4_; clear hg hw hp_))
                    go_ret
                    exact ⟨_, qq12, qq21 HO_3.out, qq8 HI0.out, qq7 HB.out HI0.out, qq11⟩
                  · rw [if_neg c21] at H
                    exact absurd H (by simp)
                · rw [if_neg c20] at H
                  exact absurd H (by simp)
              · rw [if_neg c19] at H
                exact absurd H (by simp)
            · rw [if_neg c17] at H
              have c17b0 : (t581 == 0) = false := beq_eq_false_iff_ne.mpr c17
              have c17b1 : (t581 != 0) = true := bne_iff_ne.mpr c17
              by_cases c34 : t581 = 1
              · rw [if_pos c34] at H
                have c34b0 : (t581 == 1) = true := beq_iff_eq.mpr c34
                have c34b1 : (t581 != 1) = false := bne_eq_false_iff_eq.mpr c34
                clear c34
                obtain ⟨ji35, hji35⟩ : ∃ j_ : Int, (wrap64 (1 + t569)) = j_ := ⟨_, rfl⟩
                replace H : (if 0 ≤ (ji35) then (if ((ji35) : Int).toNat ≤ 35184372088832 then (some ((List.replicate ((ji35) : Int).toNat 0), t582)) else (none)) else (none)) = some (r1, r2) := by first | (rw [hji35] at H; exact H) | (simp only [hji35] at H ⊢; exact H)
                (try rw [hji35] at c6b0)
                (try rw [hji35] at A11)
                (try rw [hji35] at A12)
                (try rw [hji35] at A16)
                have hji35w : (IntKind.i64.wrap (1 + t569)) = ji35 := (i64_w _).trans hji35
                by_cases c36 : 0 ≤ (ji35)
                · rw [if_pos c36] at H
                  have c36b0 := eq_true c36
                  have c36b1 : decide (0 ≤ (ji35)) = true := decide_eq_true c36
                  clear c36
                  by_cases c37 : ((ji35) : Int).toNat ≤ 35184372088832
                  · rw [if_pos c37] at H
                    have c37b0 := eq_true c37
                    have c37b1 : decide (((ji35) : Int).toNat ≤ 35184372088832) = true := decide_eq_true c37
                    clear c37
                    obtain ⟨y590, hy590⟩ : ∃ y_ : List Int, y_ = (List.replicate ((ji35) : Int).toNat 0) := ⟨_, rfl⟩
                    replace H : (some (y590, t582)) = some (r1, r2) := by first | (rw [hy590]; with_reducible exact H) | (have H2_ := (Option.bind_some _ _).symm.trans H; rw [hy590]; with_reducible exact H2_) | (have H2_ := (Option.bind_some _ _).symm.trans H; with_reducible exact H2_) | with_reducible exact H | (rw [hy590]; exact H) | exact H
                    have Ny590 := Aside0.mk hy590
                    clear hy590
                    simp only [Option.some.injEq, Prod.mk.injEq] at H
                    obtain ⟨rfl, rfl⟩ := H
                    go_wp2_with (first | ((with_reducible refine gate_callee (f := 36) rfl ?_); refine goesL_ (some 23) rfl rfl Try.func36 (by kernel_rfl) rfl #[.pointer (some ⟨g, 0, none⟩), .int .i64 (ji35)] rfl (by (try simp only [List.map_toArray, List.map_cons, List.map_nil]); first | done | (simp only [hji35]; rfl) | rfl | (simp only [List.length_drop, List.length_take]; rfl)) ?_; (with_reducible refine (spec_l6Rd_pick.calls k1 g s0_0 x1001_1 (ji35) t576 t577 w0 _ ?side1 ?side2 A11.out).mono ?_); (case side1 => exact qq8 HI0.out); (case side2 => exact qq7 HB.out HI0.out); rintro e w38 ⟨rfl, hi, hb, hk⟩; refine ⟨_, rfl, ?_⟩; have n0_ := Aside0.mk (Kd.R_mono (Kd.R_keep (IsS61.apart (show IsS61 w0 _ g s0_0 x1001_1 from by repeat (first | (with_reducible first | exact HI0.out | apply IsS61.alloc | apply IsS61.drewN | apply IsS61.drew | apply IsS61.set_1) | exact HI0.out)) (qq2 HO_3.out) (by decide)) hk (fun _ h => h.2)) (fun _ h => h.1)); have n1_ := Aside0.mk (KeepBut.trans qq11 hk (.inl rfl)); have n2_ := Aside0.mk (hb); have n3_ := Aside0.mk (hi); clear HO_3; clear HK; clear HB; clear HI0; have HO_3 := n0_; have HK := n1_; have HB := n2_; have HI0 := n3_; clear n0_ n1_ n2_ n3_; (try clear hb); (try clear hb2); (try clear hk); (try clear hi)) | ((with_reducible refine gate_callee (f := 36) rfl ?_); refine goesL_ (some 25) rfl rfl Try.func36 (by kernel_rfl) rfl #[.pointer (some ⟨g, 0, none⟩), .int .i64 5] rfl qq5 ?_; (with_reducible refine (spec_l6Rd_pick.calls k1 g s0_0 t577 5 t578 t579 w0 _ ?side1 ?side2 A12.out).mono ?_); (case side1 => exact qq8 HI0.out); (case side2 => exact qq7 HB.out HI0.out); rintro e w39 ⟨rfl, hi, hb, hk⟩; refine ⟨_, rfl, ?_⟩; have n0_ := Aside0.mk (Kd.R_mono (Kd.R_keep (IsS61.apart (show IsS61 w0 _ g s0_0 t577 from by repeat (first | (with_reducible first | exact HI0.out | apply IsS61.alloc | apply IsS61.drewN | apply IsS61.drew | apply IsS61.set_1) | exact HI0.out)) (qq2 HO_3.out) (by decide)) hk (fun _ h => h.2)) (fun _ h => h.1)); have n1_ := Aside0.mk (KeepBut.trans qq11 hk (.inl rfl)); have n2_ := Aside0.mk (hb); have n3_ := Aside0.mk (hi); clear HO_3; clear HK; clear HB; clear HI0; have HO_3 := n0_; have HK := n1_; have HB := n2_; have HI0 := n3_; clear n0_ n1_ n2_ n3_; (try clear hb); (try clear hb2); (try clear hk); (try clear hi); have p15 : 0 ≤ (t576 : Int) := of_decide_eq_true qq3; have q15 : (t576 : Int) < ((x3_1.length : Int) : Int) := of_decide_eq_true qq3; obtain ⟨go15, co15, eo15, gb15, gl15, cl15, HG15⟩ := Kd.R_form HO_3.out (by omega); (first | cases eo15 | (injection eo15 with ea_ en_ ec_; (first | subst ea_ | (injection ea_ with ea_; subst ea_)); subst ec_; clear en_)); have GB15 := Aside0.mk gb15; have GG15 := Aside0.mk HG15; clear gb15 gl15 HG15; obtain ⟨hx15_0, hf15_0⟩ := Kd.R_celln 0 HO_3.out (t576 : Int) p15 q15; replace p15 := eq_true p15; replace q15 := eq_true q15; obtain ⟨hy40_, hz40_⟩ := Kd.R_celln 0 HO_3.out (t576 : Int) (of_decide_eq_true qq3) (of_decide_eq_true qq3); have HP40 := Kd.R_putg HO_3.out (t576 : Int) (wrap64 (1 + t578))) | ((with_reducible refine gate_store (t := 3) (p := 27) rfl ?_); refine store_event (t := 3) (p := 27) (v := ?vo_w41) (w1 := (w39.setCell ⟨go15, (t576 : Int).toNat, none⟩ (.int .i64 (wrap64 (1 + t578))))) ?hg ?ho ?hn ?hr ?_; (case ho => rfl); (case hg => rfl); (case hn => rfl); (case hr => exact qq17); intro w41 hw; have hg : w39.grownBy w41 (some go15) := (by rw [hw]; exact HP40.2); have hp_ : Kd.R (Kd.int .i64) 3 w41 w.heap.size (fun _ => True) (.slice (some ⟨go15, 0, none⟩) x3_1.length co15) y580 := (by rw [hw, Ny580.out]; exact HP40.1); clear HP40; have n0_ := Aside0.mk (hp_); have n1_ := Aside0.mk (IsS61.grown (qq8 HI0.out) hg (IsS61.own_ne HI0.out HO_3.out (by decide))); have n2_ := Aside0.mk ((qq49 : Below w0.heap.size w0 w41)); have n3_ := Aside0.mk (KeepBut.trans qq11 (KeepBut.of_grown hg g) (Kd.R_base2 HO_3.out)); clear HO_3; clear HI0; clear HB; clear HK; have HO_3 := n0_; have HI0 := n1_; have HB := n2_; have HK := n3_; clear n0_ n1_ n2_ n3_; clear hg hw hp_) | ((with_reducible refine gate_callee (f := 36) rfl ?_); refine goesL_ (some 29) rfl rfl Try.func36 (by kernel_rfl) rfl #[.pointer (some ⟨g, 0, none⟩), .int .i64 40] rfl qq5 ?_; (with_reducible refine (spec_l6Rd_pick.calls k1 g s0_0 t579 40 t581 t582 w0 _ ?side1 ?side2 A16.out).mono ?_); (case side1 => exact qq8 HI0.out); (case side2 => exact qq7 HB.out HI0.out); rintro e w42 ⟨rfl, hi, hb, hk⟩; refine ⟨_, rfl, ?_⟩; have n0_ := Aside0.mk (Kd.R_mono (Kd.R_keep (IsS61.apart (show IsS61 w0 _ g s0_0 t579 from by repeat (first | (with_reducible first | exact HI0.out | apply IsS61.alloc | apply IsS61.drewN | apply IsS61.drew | apply IsS61.set_1) | exact HI0.out)) (qq2 HO_3.out) (by decide)) hk (fun _ h => h.2)) (fun _ h => h.1)); have n1_ := Aside0.mk (KeepBut.trans qq11 hk (.inl rfl)); have n2_ := Aside0.mk (hb); have n3_ := Aside0.mk (hi); clear HO_3; clear HK; clear HB; clear HI0; have HO_3 := n0_; have HK := n1_; have HB := n2_; have HI0 := n3_; clear n0_ n1_ n2_ n3_; (try clear hb); (try clear hb2); (try clear hk); (try clear hi)) | ((with_reducible refine gate_dst (N := 42) rfl ?_); refine Kd.R_make (Kd.int .i64) _ 3 rfl (N := 42) rfl 27 _ _ rfl (ji35) rfl rfl Try.underlying27 (.int .i64 0) 8 info3 rfl (by decide) (by omega) 0 (ok := fun _ => True) (okp := fun _ => True) rfl (fun _ hk => hk) trivial (of_decide_eq_true qq3) (Nat.le_trans (Nat.mul_le_mul_right _ (of_decide_eq_true qq3 : (ji35).toNat ≤ 35184372088832)) (by omega)) (Below.refl _ _) (Nat.le_refl _) ?_; intro v591 w43 ho44 hb hg_ hnew_; clear hg_ hnew_; (first | rw [← Ny590.out] at ho44 | (simp only [Int.reduceToNat] at ho44; rw [← Ny590.out] at ho44)); have n0_ := Aside0.mk (Kd.R_elder' (qq2 HO_3.out) (Kd.R_base ho44) hb); have n1_ := Aside0.mk (Kd.R_lower (Kd.R_new' ho44 (Kd.R_lt (qq2 HO_3.out))) (keep_size (w := w) (g := g) (row := none) qq11)); have n2_ := Aside0.mk (IsS61.below (qq8 HI0.out) hb); have n3_ := Aside0.mk (KeepBut.trans qq11 (KeepBut.of_below hb g none) (.inl rfl)); have n4_ := Aside0.mk (below_step (qq7 HB.out HI0.out) hb); clear HO_3; clear HI0; clear HK; clear HB; have HO_3 := n0_; have HO592 := n1_; have HI0 := n2_; have HK := n3_; have HB := n4_; clear n0_ n1_ n2_ n3_ n4_; clear hb ho44))
                    go_ret
                    exact ⟨_, by first | rfl | (simp [errW_none, errW_some] <;> rfl) | (simp only [← hji35]; first | rfl | (simp [errW_none, errW_some] <;> rfl)) | (simp [*, errW_none, errW_some] <;> rfl), qq21 HO592.out, qq8 HI0.out, qq7 HB.out HI0.out, qq11⟩
                  · rw [if_neg c37] at H
                    exact absurd H (by simp)
                · rw [if_neg c36] at H
                  exact absurd H (by simp)
              · rw [if_neg c34] at H
                have c34b0 : (t581 == 1) = false := beq_eq_false_iff_ne.mpr c34
                have c34b1 : (t581 != 1) = true := bne_iff_ne.mpr c34
                by_cases c45 : t581 = 2
                · rw [if_pos c45] at H
                  have c45b0 : (t581 == 2) = true := beq_iff_eq.mpr c45
                  have c45b1 : (t581 != 2) = false := bne_eq_false_iff_eq.mpr c45
                  clear c45
                  obtain ⟨y593, hy593⟩ : ∃ y_ : List Int, y_ = (([] : List Int)) := ⟨_, rfl⟩
                  replace H : (some (y593, t582)) = some (r1, r2) := by first | (rw [hy593]; with_reducible exact H) | (have H2_ := (Option.bind_some _ _).symm.trans H; rw [hy593]; with_reducible exact H2_) | (have H2_ := (Option.bind_some _ _).symm.trans H; with_reducible exact H2_) | with_reducible exact H | (rw [hy593]; exact H) | exact H
                  have Ny593 := Aside0.mk hy593
                  clear hy593
                  simp only [Option.some.injEq, Prod.mk.injEq] at H
                  obtain ⟨rfl, rfl⟩ := H
                  go_wp2_with (first | ((with_reducible refine gate_callee (f := 36) rfl ?_); refine goesL_ (some 23) rfl rfl Try.func36 (by kernel_rfl) rfl #[.pointer (some ⟨g, 0, none⟩), .int .i64 (wrap64 (1 + t569))] rfl qq5 ?_; (with_reducible refine (spec_l6Rd_pick.calls k1 g s0_0 x1001_1 (wrap64 (1 + t569)) t576 t577 w0 _ ?side1 ?side2 A11.out).mono ?_); (case side1 => exact qq8 HI0.out); (case side2 => exact qq7 HB.out HI0.out); rintro e w46 ⟨rfl, hi, hb, hk⟩; refine ⟨_, rfl, ?_⟩; have n0_ := Aside0.mk (Kd.R_mono (Kd.R_keep (IsS61.apart (show IsS61 w0 _ g s0_0 x1001_1 from by repeat (first | (with_reducible first | exact HI0.out | apply IsS61.alloc | apply IsS61.drewN | apply IsS61.drew | apply IsS61.set_1) | exact HI0.out)) (qq2 HO_3.out) (by decide)) hk (fun _ h => h.2)) (fun _ h => h.1)); have n1_ := Aside0.mk (KeepBut.trans qq11 hk (.inl rfl)); have n2_ := Aside0.mk (hb); have n3_ := Aside0.mk (hi); clear HO_3; clear HK; clear HB; clear HI0; have HO_3 := n0_; have HK := n1_; have HB := n2_; have HI0 := n3_; clear n0_ n1_ n2_ n3_; (try clear hb); (try clear hb2); (try clear hk); (try clear hi)) | ((with_reducible refine gate_callee (f := 36) rfl ?_); refine goesL_ (some 25) rfl rfl Try.func36 (by kernel_rfl) rfl #[.pointer (some ⟨g, 0, none⟩), .int .i64 5] rfl qq5 ?_; (with_reducible refine (spec_l6Rd_pick.calls k1 g s0_0 t577 5 t578 t579 w0 _ ?side1 ?side2 A12.out).mono ?_); (case side1 => exact qq8 HI0.out); (case side2 => exact qq7 HB.out HI0.out); rintro e w47 ⟨rfl, hi, hb, hk⟩; refine ⟨_, rfl, ?_⟩; have n0_ := Aside0.mk (Kd.R_mono (Kd.R_keep (IsS61.apart (show IsS61 w0 _ g s0_0 t577 from by repeat (first | (with_reducible first | exact HI0.out | apply IsS61.alloc | apply IsS61.drewN | apply IsS61.drew | apply IsS61.set_1) | exact HI0.out)) (qq2 HO_3.out) (by decide)) hk (fun _ h => h.2)) (fun _ h => h.1)); have n1_ := Aside0.mk (KeepBut.trans qq11 hk (.inl rfl)); have n2_ := Aside0.mk (hb); have n3_ := Aside0.mk (hi); clear HO_3; clear HK; clear HB; clear HI0; have HO_3 := n0_; have HK := n1_; have HB := n2_; have HI0 := n3_; clear n0_ n1_ n2_ n3_; (try clear hb); (try clear hb2); (try clear hk); (try clear hi); have p15 : 0 ≤ (t576 : Int) := of_decide_eq_true qq3; have q15 : (t576 : Int) < ((x3_1.length : Int) : Int) := of_decide_eq_true qq3; obtain ⟨go15, co15, eo15, gb15, gl15, cl15, HG15⟩ := Kd.R_form HO_3.out (by omega); (first | cases eo15 | (injection eo15 with ea_ en_ ec_; (first | subst ea_ | (injection ea_ with ea_; subst ea_)); subst ec_; clear en_)); have GB15 := Aside0.mk gb15; have GG15 := Aside0.mk HG15; clear gb15 gl15 HG15; obtain ⟨hx15_0, hf15_0⟩ := Kd.R_celln 0 HO_3.out (t576 : Int) p15 q15; replace p15 := eq_true p15; replace q15 := eq_true q15; obtain ⟨hy48_, hz48_⟩ := Kd.R_celln 0 HO_3.out (t576 : Int) (of_decide_eq_true qq3) (of_decide_eq_true qq3); have HP48 := Kd.R_putg HO_3.out (t576 : Int) (wrap64 (1 + t578))) | ((with_reducible refine gate_store (t := 3) (p := 27) rfl ?_); refine store_event (t := 3) (p := 27) (v := ?vo_w49) (w1 := (w47.setCell ⟨go15, (t576 : Int).toNat, none⟩ (.int .i64 (wrap64 (1 + t578))))) ?hg ?ho ?hn ?hr ?_; (case ho => rfl); (case hg => rfl); (case hn => rfl); (case hr => exact qq17); intro w49 hw; have hg : w47.grownBy w49 (some go15) := (by rw [hw]; exact HP48.2); have hp_ : Kd.R (Kd.int .i64) 3 w49 w.heap.size (fun _ => True) (.slice (some ⟨go15, 0, none⟩) x3_1.length co15) y580 := (by rw [hw, Ny580.out]; exact HP48.1); clear HP48; have n0_ := Aside0.mk (hp_); have n1_ := Aside0.mk (IsS61.grown (qq8 HI0.out) hg (IsS61.own_ne HI0.out HO_3.out (by decide))); have n2_ := Aside0.mk ((qq49 : Below w0.heap.size w0 w49)); have n3_ := Aside0.mk (KeepBut.trans qq11 (KeepBut.of_grown hg g) (Kd.R_base2 HO_3.out)); clear HO_3; clear HI0; clear HB; clear HK; have HO_3 := n0_; have HI0 := n1_; have HB := n2_; have HK := n3_; clear n0_ n1_ n2_ n3_; clear hg hw hp_) | ((with_reducible refine gate_callee (f := 36) rfl ?_); refine goesL_ (some 29) rfl rfl Try.func36 (by kernel_rfl) rfl #[.pointer (some ⟨g, 0, none⟩), .int .i64 40] rfl qq5 ?_; (with_reducible refine (spec_l6Rd_pick.calls k1 g s0_0 t579 40 t581 t582 w0 _ ?side1 ?side2 A16.out).mono ?_); (case side1 => exact qq8 HI0.out); (case side2 => exact qq7 HB.out HI0.out); rintro e w50 ⟨rfl, hi, hb, hk⟩; refine ⟨_, rfl, ?_⟩; have n0_ := Aside0.mk (Kd.R_mono (Kd.R_keep (IsS61.apart (show IsS61 w0 _ g s0_0 t579 from by repeat (first | (with_reducible first | exact HI0.out | apply IsS61.alloc | apply IsS61.drewN | apply IsS61.drew | apply IsS61.set_1) | exact HI0.out)) (qq2 HO_3.out) (by decide)) hk (fun _ h => h.2)) (fun _ h => h.1)); have n1_ := Aside0.mk (KeepBut.trans qq11 hk (.inl rfl)); have n2_ := Aside0.mk (hb); have n3_ := Aside0.mk (hi); clear HO_3; clear HK; clear HB; clear HI0; have HO_3 := n0_; have HK := n1_; have HB := n2_; have HI0 := n3_; clear n0_ n1_ n2_ n3_; (try clear hb); (try clear hb2); (try clear hk); (try clear hi)) | ((with_reducible refine gate_dst (N := 45) rfl ?_); refine Kd.R_lit (Kd.int .i64) _ 3 ?hg (N := 45) ?hd (xs := ([] : List Int)) (inner := []) (ok := fun _ => True) (okp := fun _ => True) ?hr ?hp (fun _ hk => hk) trivial (Below.refl _ _) (Nat.le_refl _) (by simp) ?_; (case hd => rfl); (case hg => rfl); (case hr => exact qq17); (case hp => exact (Reps.none _ _)); intro v594 w51 ho52 hb hg_ hnew_; clear hg_ hnew_; (first | rw [← Ny593.out] at ho52 | (simp only [Int.reduceToNat] at ho52; rw [← Ny593.out] at ho52)); have n0_ := Aside0.mk (Kd.R_elder' (qq2 HO_3.out) (Kd.R_base ho52) hb); have n1_ := Aside0.mk (Kd.R_lower (Kd.R_new' ho52 (Kd.R_lt (qq2 HO_3.out))) (keep_size (w := w) (g := g) (row := none) qq11)); have n2_ := Aside0.mk (IsS61.below (qq8 HI0.out) hb); have n3_ := Aside0.mk (KeepBut.trans qq11 (KeepBut.of_below hb g none) (.inl rfl)); have n4_ := Aside0.mk (below_step (qq7 HB.out HI0.out) hb); clear HO_3; clear HI0; clear HK; clear HB; have HO_3 := n0_; have HO595 := n1_; have HI0 := n2_; have HK := n3_; have HB := n4_; clear n0_ n1_ n2_ n3_ n4_; clear hb ho52))
                  go_ret
                  exact ⟨_, qq12, qq21 HO595.out, qq8 HI0.out, qq7 HB.out HI0.out, qq11⟩
                · rw [if_neg c45] at H
                  have c45b0 : (t581 == 2) = false := beq_eq_false_iff_ne.mpr c45
                  have c45b1 : (t581 != 2) = true := bne_iff_ne.mpr c45
                  simp only [Option.some.injEq, Prod.mk.injEq] at H
                  obtain ⟨rfl, rfl⟩ := H
                  go_wp2_with (first | ((with_reducible refine gate_callee (f := 36) rfl ?_); refine goesL_ (some 23) rfl rfl Try.func36 (by kernel_rfl) rfl #[.pointer (some ⟨g, 0, none⟩), .int .i64 (wrap64 (1 + t569))] rfl qq5 ?_; (with_reducible refine (spec_l6Rd_pick.calls k1 g s0_0 x1001_1 (wrap64 (1 + t569)) t576 t577 w0 _ ?side1 ?side2 A11.out).mono ?_); (case side1 => exact qq8 HI0.out); (case side2 => exact qq7 HB.out HI0.out); rintro e w53 ⟨rfl, hi, hb, hk⟩; refine ⟨_, rfl, ?_⟩; have n0_ := Aside0.mk (Kd.R_mono (Kd.R_keep (IsS61.apart (show IsS61 w0 _ g s0_0 x1001_1 from by repeat (first | (with_reducible first | exact HI0.out | apply IsS61.alloc | apply IsS61.drewN | apply IsS61.drew | apply IsS61.set_1) | exact HI0.out)) (qq2 HO_3.out) (by decide)) hk (fun _ h => h.2)) (fun _ h => h.1)); have n1_ := Aside0.mk (KeepBut.trans qq11 hk (.inl rfl)); have n2_ := Aside0.mk (hb); have n3_ := Aside0.mk (hi); clear HO_3; clear HK; clear HB; clear HI0; have HO_3 := n0_; have HK := n1_; have HB := n2_; have HI0 := n3_; clear n0_ n1_ n2_ n3_; (try clear hb); (try clear hb2); (try clear hk); (try clear hi)) | ((with_reducible refine gate_callee (f := 36) rfl ?_); refine goesL_ (some 25) rfl rfl Try.func36 (by kernel_rfl) rfl #[.pointer (some ⟨g, 0, none⟩), .int .i64 5] rfl qq5 ?_; (with_reducible refine (spec_l6Rd_pick.calls k1 g s0_0 t577 5 t578 t579 w0 _ ?side1 ?side2 A12.out).mono ?_); (case side1 => exact qq8 HI0.out); (case side2 => exact qq7 HB.out HI0.out); rintro e w54 ⟨rfl, hi, hb, hk⟩; refine ⟨_, rfl, ?_⟩; have n0_ := Aside0.mk (Kd.R_mono (Kd.R_keep (IsS61.apart (show IsS61 w0 _ g s0_0 t577 from by repeat (first | (with_reducible first | exact HI0.out | apply IsS61.alloc | apply IsS61.drewN | apply IsS61.drew | apply IsS61.set_1) | exact HI0.out)) (qq2 HO_3.out) (by decide)) hk (fun _ h => h.2)) (fun _ h => h.1)); have n1_ := Aside0.mk (KeepBut.trans qq11 hk (.inl rfl)); have n2_ := Aside0.mk (hb); have n3_ := Aside0.mk (hi); clear HO_3; clear HK; clear HB; clear HI0; have HO_3 := n0_; have HK := n1_; have HB := n2_; have HI0 := n3_; clear n0_ n1_ n2_ n3_; (try clear hb); (try clear hb2); (try clear hk); (try clear hi); have p15 : 0 ≤ (t576 : Int) := of_decide_eq_true qq3; have q15 : (t576 : Int) < ((x3_1.length : Int) : Int) := of_decide_eq_true qq3; obtain ⟨go15, co15, eo15, gb15, gl15, cl15, HG15⟩ := Kd.R_form HO_3.out (by omega); (first | cases eo15 | (injection eo15 with ea_ en_ ec_; (first | subst ea_ | (injection ea_ with ea_; subst ea_)); subst ec_; clear en_)); have GB15 := Aside0.mk gb15; have GG15 := Aside0.mk HG15; clear gb15 gl15 HG15; obtain ⟨hx15_0, hf15_0⟩ := Kd.R_celln 0 HO_3.out (t576 : Int) p15 q15; replace p15 := eq_true p15; replace q15 := eq_true q15; obtain ⟨hy55_, hz55_⟩ := Kd.R_celln 0 HO_3.out (t576 : Int) (of_decide_eq_true qq3) (of_decide_eq_true qq3); have HP55 := Kd.R_putg HO_3.out (t576 : Int) (wrap64 (1 + t578))) | ((with_reducible refine gate_store (t := 3) (p := 27) rfl ?_); refine store_event (t := 3) (p := 27) (v := ?vo_w56) (w1 := (w54.setCell ⟨go15, (t576 : Int).toNat, none⟩ (.int .i64 (wrap64 (1 + t578))))) ?hg ?ho ?hn ?hr ?_; (case ho => rfl); (case hg => rfl); (case hn => rfl); (case hr => exact qq17); intro w56 hw; have hg : w54.grownBy w56 (some go15) := (by rw [hw]; exact HP55.2); have hp_ : Kd.R (Kd.int .i64) 3 w56 w.heap.size (fun _ => True) (.slice (some ⟨go15, 0, none⟩) x3_1.length co15) y580 := (by rw [hw, Ny580.out]; exact HP55.1); clear HP55; have n0_ := Aside0.mk (hp_); have n1_ := Aside0.mk (IsS61.grown (qq8 HI0.out) hg (IsS61.own_ne HI0.out HO_3.out (by decide))); have n2_ := Aside0.mk ((qq49 : Below w0.heap.size w0 w56)); have n3_ := Aside0.mk (KeepBut.trans qq11 (KeepBut.of_grown hg g) (Kd.R_base2 HO_3.out)); clear HO_3; clear HI0; clear HB; clear HK; have HO_3 := n0_; have HI0 := n1_; have HB := n2_; have HK := n3_; clear n0_ n1_ n2_ n3_; clear hg hw hp_) | ((with_reducible refine gate_callee (f := 36) rfl ?_); refine goesL_ (some 29) rfl rfl Try.func36 (by kernel_rfl) rfl #[.pointer (some ⟨g, 0, none⟩), .int .i64 40] rfl qq5 ?_; (with_reducible refine (spec_l6Rd_pick.calls k1 g s0_0 t579 40 t581 t582 w0 _ ?side1 ?side2 A16.out).mono ?_); (case side1 => exact qq8 HI0.out); (case side2 => exact qq7 HB.out HI0.out); rintro e w57 ⟨rfl, hi, hb, hk⟩; refine ⟨_, rfl, ?_⟩; have n0_ := Aside0.mk (Kd.R_mono (Kd.R_keep (IsS61.apart (show IsS61 w0 _ g s0_0 t579 from by repeat (first | (with_reducible first | exact HI0.out | apply IsS61.alloc | apply IsS61.drewN | apply IsS61.drew | apply IsS61.set_1) | exact HI0.out)) (qq2 HO_3.out) (by decide)) hk (fun _ h => h.2)) (fun _ h => h.1)); have n1_ := Aside0.mk (KeepBut.trans qq11 hk (.inl rfl)); have n2_ := Aside0.mk (hb); have n3_ := Aside0.mk (hi); clear HO_3; clear HK; clear HB; clear HI0; have HO_3 := n0_; have HK := n1_; have HB := n2_; have HI0 := n3_; clear n0_ n1_ n2_ n3_; (try clear hb); (try clear hb2); (try clear hk); (try clear hi)))
                  go_ret
                  exact ⟨_, qq12, qq2 HO_3.out, qq8 HI0.out, qq7 HB.out HI0.out, qq11⟩
          · rw [if_neg c14] at H
            exact absurd H (by simp)
        · rw [if_neg c13] at H
          exact absurd H (by simp)

end Go.Proofs.Ytmcfhmflncghiaa.Q
namespace Go.Proofs.Ytmcfhmflncghiaa.Q
open Go.RowKit Go.Proofs.YtmcfhmflncghiaaW.PrintWords Go.Proofs.YtmcfhmflncghiaaW.PrintLast Go.Proofs.YtmcfhmflncghiaaW.PrintMore
attribute [local go_sem] max2_int min2_int max_two min_two max_three min_three max_four min_four
set_option linter.unusedVariables false
set_option linter.unusedSimpArgs false

/-! ### spec_DrawShareRises: function 19 -/
def spec_DrawShareRises.l0 : Nat → List Int → List Int → Int → List Int → Int → Option (List Int × List Int)
  | 0, _, _, _, _, _ => none
  | k + 1, x5, x6, x7, x599000, x599001 => if x7 < (x5.length : Int) then ((spec_l6Rd_pick.f k x599000 x599001 61).bind fun bt606 => (if x6.length < 17592186044416 then (spec_DrawShareRises.l0 k x5 (x6 ++ [wrap64 (bt606.1 - 30)]) (wrap64 (x7 + 1)) x599000 bt606.2) else (none))) else (if (x6.length : Int) > 0 then ((spec_l6Rd_pick.f k x599000 x599001 24).bind fun bt611 => (if bt611.1 = 0 then (if 0 < (x6.length : Int) then (some (x5, (x6.set (0 : Int).toNat 100001))) else (none)) else (if bt611.1 = 1 then (if 1 ≤ (x6.length : Int) then (some (x5, (x6.drop (1 : Int).toNat))) else (none)) else (some (x5, x6))))) else (some (x5, x6)))
def spec_DrawShareRises.f (k : Nat) (l0 : List Int) : Option (List Int × List Int) := (spec_l6Open.f l0).bind fun bt596 => ((spec_l91Lengths.f k bt596.1 bt596.2).bind fun bt599 => (spec_DrawShareRises.l0 k bt599.1 (([] : List Int)) 0 bt596.1 bt599.2))
set_option maxHeartbeats 8000000 in
set_option maxRecDepth 100000 in
theorem spec_DrawShareRises.calls (k : Nat) (A0 : Option Addr) (c0 : Nat) (l0 : List Int) (r1 : List Int) (r2 : List Int) (w : World) (hr0 : Kd.C (Kd.int .u8) w A0 l0.length l0) (hc0 : l0.length ≤ c0) (h : spec_DrawShareRises.f k l0 = some (r1, r2)) :
    Calls Try.prog 19 #[.slice A0 l0.length c0] w fun e w' => ∃ v0_ v1_ : Value, e = .returned (.tuple #[v0_, v1_]) ∧ Kd.R (Kd.int .i64) 3 w' w.heap.size (fun k_ => some k_ ≠ (v1_ : Value).ownBlock) v0_ r1 ∧ Kd.Q (Kd.int .i64) 3 w' w.heap.size (fun k_ => some k_ ≠ (v0_ : Value).ownBlock) v1_ r2 ∧ Below w.heap.size w w' := by
  have HR0 := Aside0.mk hr0
  have HC0 := Aside0.mk hc0
  clear hr0 hc0
  have HB := Aside0.mk (Below.refl w.heap.size w)
  have H : ((spec_l6Open.f l0).bind fun bt596 => ((spec_l91Lengths.f k bt596.1 bt596.2).bind fun bt599 => (spec_DrawShareRises.l0 k bt599.1 (([] : List Int)) 0 bt596.1 bt599.2))) = some (r1, r2) := h
  clear h
  replace H := Option.bind_eq_some_iff.mp H
  obtain ⟨⟨t596, t597⟩, A20, H⟩ := H
  replace H : ((spec_l91Lengths.f k t596 t597).bind fun bt599 => (spec_DrawShareRises.l0 k bt599.1 (([] : List Int)) 0 t596 bt599.2)) = some (r1, r2) := H
  have A2 := Aside0.mk A20
  clear A20
  replace H := Option.bind_eq_some_iff.mp H
  obtain ⟨⟨t599, t602⟩, A30, H⟩ := H
  replace H : (spec_DrawShareRises.l0 k t599 (([] : List Int)) 0 t596 t602) = some (r1, r2) := H
  have A3 := Aside0.mk A30
  clear A30
  obtain ⟨y603, hy603⟩ : ∃ y_ : List Int, y_ = (([] : List Int)) := ⟨_, rfl⟩
  replace H : (spec_DrawShareRises.l0 k t599 y603 0 t596 t602) = some (r1, r2) := by first | (rw [hy603]; with_reducible exact H) | (have H2_ := (Option.bind_some _ _).symm.trans H; rw [hy603]; with_reducible exact H2_) | (have H2_ := (Option.bind_some _ _).symm.trans H; with_reducible exact H2_) | with_reducible exact H | (rw [hy603]; exact H) | exact H
  have Ny603 := Aside0.mk hy603
  clear hy603
  have H' := Aside0.mk H
  clear H
  go_enter Try.func19, Try.ntmps19
  go_wp2_with (first | (go_at_call 25; (with_reducible refine (spec_l6Open.calls _ _ l0 t596 t597 w _ ?side1 ?side2 ?side3 A2.out).mono ?_); (case side1 => exact qq1); (case side2 => exact HR0.out); (case side3 => exact HC0.out); rintro e w4 ⟨g598, rfl, hi, hb, hb2⟩; have n0_ := Aside0.mk (hb); have n1_ := Aside0.mk (hi); clear HB; have HB := n0_; have HI598 := n1_; clear n0_ n1_; (try clear hb); (try clear hb2); (try clear hk); (try clear hi)) | (go_at_call 35; (with_reducible refine (spec_l91Lengths.calls k g598 t596 t597 t599 t602 w _ ?side1 ?side2 A3.out).mono ?_); (case side1 => exact qq8 HI598.out); (case side2 => exact qq53); rintro e w5 ⟨v600, rfl, ho0, hi, hb, hk⟩; have n0_ := Aside0.mk (Kd.R_lower ho0 (below_size (qq7 HB.out HI598.out))); have n1_ := Aside0.mk (hb); have n2_ := Aside0.mk (hi); clear HB; clear HI598; have HO601 := n0_; have HB := n1_; have HI598 := n2_; clear n0_ n1_ n2_; (try clear hb); (try clear hb2); (try clear hk); (try clear hi); (try clear ho0)) | ((with_reducible refine gate_dst (N := 12) rfl ?_); refine Kd.R_lit (Kd.int .i64) _ 3 ?hg (N := 12) ?hd (xs := ([] : List Int)) (inner := []) (ok := fun _ => True) (okp := fun _ => True) ?hr ?hp (fun _ hk => hk) trivial (Below.refl _ _) (Nat.le_refl _) (by simp) ?_; (case hd => rfl); (case hg => rfl); (case hr => exact qq17); (case hp => exact (Reps.none _ _)); intro v604 w6 ho7 hb hg_ hnew_; clear hg_ hnew_; (first | rw [← Ny603.out] at ho7 | (simp only [Int.reduceToNat] at ho7; rw [← Ny603.out] at ho7)); have n0_ := Aside0.mk (Kd.R_elder' (qq2 HO601.out) (Kd.R_base ho7) hb); have n1_ := Aside0.mk (Kd.R_lower (Kd.R_new' ho7 (Kd.R_lt (qq2 HO601.out))) (below_size (qq7 HB.out HI598.out))); have n2_ := Aside0.mk (IsS61.below (qq8 HI598.out) hb); have n3_ := Aside0.mk (below_step (qq7 HB.out HI598.out) hb); clear HO601; clear HI598; clear HB; have HO601 := n0_; have HO605 := n1_; have HI598 := n2_; have HB := n3_; clear n0_ n1_ n2_ n3_; clear hb ho7))
  repeat (go_quiet (first | (go_at_call 25; (with_reducible refine (spec_l6Open.calls _ _ l0 t596 t597 w _ ?side1 ?side2 ?side3 A2.out).mono ?_); (case side1 => exact qq1); (case side2 => exact HR0.out); (case side3 => exact HC0.out); rintro e w4 ⟨g598, rfl, hi, hb, hb2⟩; have n0_ := Aside0.mk (hb); have n1_ := Aside0.mk (hi); clear HB; have HB := n0_; have HI598 := n1_; clear n0_ n1_; (try clear hb); (try clear hb2); (try clear hk); (try clear hi)) | (go_at_call 35; (with_reducible refine (spec_l91Lengths.calls k g598 t596 t597 t599 t602 w _ ?side1 ?side2 A3.out).mono ?_); (case side1 => exact qq8 HI598.out); (case side2 => exact qq53); rintro e w5 ⟨v600, rfl, ho0, hi, hb, hk⟩; have n0_ := Aside0.mk (Kd.R_lower ho0 (below_size (qq7 HB.out HI598.out))); have n1_ := Aside0.mk (hb); have n2_ := Aside0.mk (hi); clear HB; clear HI598; have HO601 := n0_; have HB := n1_; have HI598 := n2_; clear n0_ n1_ n2_; (try clear hb); (try clear hb2); (try clear hk); (try clear hi); (try clear ho0)) | ((with_reducible refine gate_dst (N := 12) rfl ?_); refine Kd.R_lit (Kd.int .i64) _ 3 ?hg (N := 12) ?hd (xs := ([] : List Int)) (inner := []) (ok := fun _ => True) (okp := fun _ => True) ?hr ?hp (fun _ hk => hk) trivial (Below.refl _ _) (Nat.le_refl _) (by simp) ?_; (case hd => rfl); (case hg => rfl); (case hr => exact qq17); (case hp => exact (Reps.none _ _)); intro v604 w6 ho7 hb hg_ hnew_; clear hg_ hnew_; (first | rw [← Ny603.out] at ho7 | (simp only [Int.reduceToNat] at ho7; rw [← Ny603.out] at ho7)); have n0_ := Aside0.mk (Kd.R_elder' (qq2 HO601.out) (Kd.R_base ho7) hb); have n1_ := Aside0.mk (Kd.R_lower (Kd.R_new' ho7 (Kd.R_lt (qq2 HO601.out))) (below_size (qq7 HB.out HI598.out))); have n2_ := Aside0.mk (IsS61.below (qq8 HI598.out) hb); have n3_ := Aside0.mk (below_step (qq7 HB.out HI598.out) hb); clear HO601; clear HI598; clear HB; have HO601 := n0_; have HO605 := n1_; have HI598 := n2_; have HB := n3_; clear n0_ n1_ n2_ n3_; clear hb ho7)); try go_wp2_with (first | (go_at_call 25; (with_reducible refine (spec_l6Open.calls _ _ l0 t596 t597 w _ ?side1 ?side2 ?side3 A2.out).mono ?_); (case side1 => exact qq1); (case side2 => exact HR0.out); (case side3 => exact HC0.out); rintro e w4 ⟨g598, rfl, hi, hb, hb2⟩; have n0_ := Aside0.mk (hb); have n1_ := Aside0.mk (hi); clear HB; have HB := n0_; have HI598 := n1_; clear n0_ n1_; (try clear hb); (try clear hb2); (try clear hk); (try clear hi)) | (go_at_call 35; (with_reducible refine (spec_l91Lengths.calls k g598 t596 t597 t599 t602 w _ ?side1 ?side2 A3.out).mono ?_); (case side1 => exact qq8 HI598.out); (case side2 => exact qq53); rintro e w5 ⟨v600, rfl, ho0, hi, hb, hk⟩; have n0_ := Aside0.mk (Kd.R_lower ho0 (below_size (qq7 HB.out HI598.out))); have n1_ := Aside0.mk (hb); have n2_ := Aside0.mk (hi); clear HB; clear HI598; have HO601 := n0_; have HB := n1_; have HI598 := n2_; clear n0_ n1_ n2_; (try clear hb); (try clear hb2); (try clear hk); (try clear hi); (try clear ho0)) | ((with_reducible refine gate_dst (N := 12) rfl ?_); refine Kd.R_lit (Kd.int .i64) _ 3 ?hg (N := 12) ?hd (xs := ([] : List Int)) (inner := []) (ok := fun _ => True) (okp := fun _ => True) ?hr ?hp (fun _ hk => hk) trivial (Below.refl _ _) (Nat.le_refl _) (by simp) ?_; (case hd => rfl); (case hg => rfl); (case hr => exact qq17); (case hp => exact (Reps.none _ _)); intro v604 w6 ho7 hb hg_ hnew_; clear hg_ hnew_; (first | rw [← Ny603.out] at ho7 | (simp only [Int.reduceToNat] at ho7; rw [← Ny603.out] at ho7)); have n0_ := Aside0.mk (Kd.R_elder' (qq2 HO601.out) (Kd.R_base ho7) hb); have n1_ := Aside0.mk (Kd.R_lower (Kd.R_new' ho7 (Kd.R_lt (qq2 HO601.out))) (below_size (qq7 HB.out HI598.out))); have n2_ := Aside0.mk (IsS61.below (qq8 HI598.out) hb); have n3_ := Aside0.mk (below_step (qq7 HB.out HI598.out) hb); clear HO601; clear HI598; clear HB; have HO601 := n0_; have HO605 := n1_; have HI598 := n2_; have HB := n3_; clear n0_ n1_ n2_ n3_; clear hb ho7)))
  go_loopg [6, 7] k (fun kq v6 v7 w' => ∃ (x6_1 : List Int) (x7_1 : Int) (x599001_1 : Int), v7 = .int .i64 x7_1 ∧ Aside0 (spec_DrawShareRises.l0 kq t599 x6_1 x7_1 t596 x599001_1 = some (r1, r2)) ∧ Aside0 (kq ≤ k) ∧ Aside0 (Kd.R (Kd.int .i64) 3 w' w.heap.size (fun k_ => some k_ ≠ (v6 : Value).ownBlock) v600 t599) ∧ Aside0 (Kd.R (Kd.int .i64) 3 w' w.heap.size (fun k_ => some k_ ≠ (v600 : Value).ownBlock) v6 x6_1) ∧ Aside0 (IsS61 w w' g598 t596 x599001_1) ∧ Aside0 (Below w.heap.size w w'))
  case atStart => exact ⟨(y603), (0), (t602), qq9, H', ⟨Nat.le_refl _⟩, ⟨qq18 HO601.out⟩, ⟨qq18 HO605.out⟩, ⟨qq8 HI598.out⟩, ⟨qq7 HB.out HI598.out⟩⟩
  case round =>
    clear H'
    try clear c1
    try clear p2
    obtain ⟨x6_1, x7_1, x599001_1, rfl, HA, HK1, HO_5, HO_6, HI598, HB⟩ := hrel
    cases gk with
    | zero => exact absurd HA.out (by simp [spec_DrawShareRises.l0])
    | succ k1 =>
      have H := HA.out
      clear HA
      simp only [spec_DrawShareRises.l0] at H
      by_cases c8 : x7_1 < (t599.length : Int)
      · rw [if_pos c8] at H
        have c8b0 : decide (x7_1 < (t599.length : Int)) = true := decide_eq_true c8
        clear c8
        replace H := Option.bind_eq_some_iff.mp H
        obtain ⟨⟨t606, t607⟩, A90, H⟩ := H
        replace H : (if x6_1.length < 17592186044416 then (spec_DrawShareRises.l0 k1 t599 (x6_1 ++ [wrap64 (t606 - 30)]) (wrap64 (x7_1 + 1)) t596 t607) else (none)) = some (r1, r2) := H
        have A9 := Aside0.mk A90
        clear A90
        by_cases c10 : x6_1.length < 17592186044416
        · rw [if_pos c10] at H
          have LMc10 := Aside0.mk c10
          clear c10
          obtain ⟨y608, hy608⟩ : ∃ y_ : List Int, y_ = (x6_1 ++ [wrap64 (t606 - 30)]) := ⟨_, rfl⟩
          replace H : (spec_DrawShareRises.l0 k1 t599 y608 (wrap64 (x7_1 + 1)) t596 t607) = some (r1, r2) := by first | (rw [hy608]; with_reducible exact H) | (have H2_ := (Option.bind_some _ _).symm.trans H; rw [hy608]; with_reducible exact H2_) | (have H2_ := (Option.bind_some _ _).symm.trans H; with_reducible exact H2_) | with_reducible exact H | (rw [hy608]; exact H) | exact H
          have Ny608 := Aside0.mk hy608
          clear hy608
          have H' := Aside0.mk H
          clear H
          obtain ⟨Ao11, co11, eo11⟩ := Kd.R_slice HO_5.out
          subst eo11
          go_wp2_with (first | (go_at_call 36; (with_reducible refine (spec_l6Rd_pick.calls k1 g598 t596 x599001_1 61 t606 t607 w _ ?side1 ?side2 A9.out).mono ?_); (case side1 => exact qq8 HI598.out); (case side2 => exact qq53); rintro e w12 ⟨rfl, hi, hb, hk⟩; have n0_ := Aside0.mk (Kd.R_mono (Kd.R_keep (IsS61.apart (show IsS61 w _ g598 t596 x599001_1 from by repeat (first | (with_reducible first | exact HI598.out | apply IsS61.alloc | apply IsS61.drewN | apply IsS61.drew | apply IsS61.set_1) | exact HI598.out)) (qq2 HO_5.out) (by decide)) hk (fun _ h => h.2)) (fun _ h => h.1)); have n1_ := Aside0.mk (Kd.R_mono (Kd.R_keep (IsS61.apart (show IsS61 w _ g598 t596 x599001_1 from by repeat (first | (with_reducible first | exact HI598.out | apply IsS61.alloc | apply IsS61.drewN | apply IsS61.drew | apply IsS61.set_1) | exact HI598.out)) (qq2 HO_6.out) (by decide)) hk (fun _ h => h.2)) (fun _ h => h.1)); have n2_ := Aside0.mk (hb); have n3_ := Aside0.mk (hi); clear HO_5; clear HO_6; clear HB; clear HI598; have HO_5 := n0_; have HO_6 := n1_; have HB := n2_; have HI598 := n3_; clear n0_ n1_ n2_ n3_; (try clear hb); (try clear hb2); (try clear hk); (try clear hi)) | ((with_reducible refine gate_builtin (b := .append) (xs := #[.tmp 19, .tmp 23]) rfl ?_); at_builtin; refine Kd.R_append (Kd.int .i64) (w0 := w) w.heap.size rfl (.tmp 19) (.tmp 23) 27 3 (.int .i64 0) 8 rfl Try.underlying27 info3 rfl (by decide) (by omega) u6 x6_1 (wrap64 (t606 - 30)) [.int .i64 (wrap64 (t606 - 30))] (fun k_ => some k_ ≠ (.slice Ao11 t599.length co11 : Value).ownBlock) (fun _ => False) rfl rfl ?aP (fun _ hk => hk.elim) ?aF ?aO ?aB ?aS ?aL ?_; (case aP => exact rfl); (case aB => exact (qq7 HB.out HI598.out)); (case aF => exact qq48 HO_5.out); (case aO => exact (qq2 HO_6.out)); (case aS => exact (below_size (qq7 HB.out HI598.out))); (case aL => have := LMc10.out; omega); intro v609 w13 ho hb hg hat; rw [← Ny608.out] at ho; have n0_ := Aside0.mk (Kd.R_after (ok := (fun _ => True)) (qq23 HO_5.out) hg hat); have n1_ := Aside0.mk (IsS61.grown (qq8 HI598.out) hg (IsS61.own_ne HI598.out HO_6.out (by decide))); have n2_ := Aside0.mk (hb); have n3_ := Aside0.mk (ho); clear HO_5; clear HI598; clear HB; clear HO_6; have HO_5 := n0_; have HI598 := n1_; have HB := n2_; have HO610 := n3_; clear n0_ n1_ n2_ n3_; clear ho hb hg hat))
          repeat (go_quiet (first | (go_at_call 36; (with_reducible refine (spec_l6Rd_pick.calls k1 g598 t596 x599001_1 61 t606 t607 w _ ?side1 ?side2 A9.out).mono ?_); (case side1 => exact qq8 HI598.out); (case side2 => exact qq53); rintro e w12 ⟨rfl, hi, hb, hk⟩; have n0_ := Aside0.mk (Kd.R_mono (Kd.R_keep (IsS61.apart (show IsS61 w _ g598 t596 x599001_1 from by repeat (first | (with_reducible first | exact HI598.out | apply IsS61.alloc | apply IsS61.drewN | apply IsS61.drew | apply IsS61.set_1) | exact HI598.out)) (qq2 HO_5.out) (by decide)) hk (fun _ h => h.2)) (fun _ h => h.1)); have n1_ := Aside0.mk (Kd.R_mono (Kd.R_keep (IsS61.apart (show IsS61 w _ g598 t596 x599001_1 from by repeat (first | (with_reducible first | exact HI598.out | apply IsS61.alloc | apply IsS61.drewN | apply IsS61.drew | apply IsS61.set_1) | exact HI598.out)) (qq2 HO_6.out) (by decide)) hk (fun _ h => h.2)) (fun _ h => h.1)); have n2_ := Aside0.mk (hb); have n3_ := Aside0.mk (hi); clear HO_5; clear HO_6; clear HB; clear HI598; have HO_5 := n0_; have HO_6 := n1_; have HB := n2_; have HI598 := n3_; clear n0_ n1_ n2_ n3_; (try clear hb); (try clear hb2); (try clear hk); (try clear hi)) | ((with_reducible refine gate_builtin (b := .append) (xs := #[.tmp 19, .tmp 23]) rfl ?_); at_builtin; refine Kd.R_append (Kd.int .i64) (w0 := w) w.heap.size rfl (.tmp 19) (.tmp 23) 27 3 (.int .i64 0) 8 rfl Try.underlying27 info3 rfl (by decide) (by omega) u6 x6_1 (wrap64 (t606 - 30)) [.int .i64 (wrap64 (t606 - 30))] (fun k_ => some k_ ≠ (.slice Ao11 t599.length co11 : Value).ownBlock) (fun _ => False) rfl rfl ?aP (fun _ hk => hk.elim) ?aF ?aO ?aB ?aS ?aL ?_; (case aP => exact rfl); (case aB => exact (qq7 HB.out HI598.out)); (case aF => exact qq48 HO_5.out); (case aO => exact (qq2 HO_6.out)); (case aS => exact (below_size (qq7 HB.out HI598.out))); (case aL => have := LMc10.out; omega); intro v609 w13 ho hb hg hat; rw [← Ny608.out] at ho; have n0_ := Aside0.mk (Kd.R_after (ok := (fun _ => True)) (qq23 HO_5.out) hg hat); have n1_ := Aside0.mk (IsS61.grown (qq8 HI598.out) hg (IsS61.own_ne HI598.out HO_6.out (by decide))); have n2_ := Aside0.mk (hb); have n3_ := Aside0.mk (ho); clear HO_5; clear HI598; clear HB; clear HO_6; have HO_5 := n0_; have HI598 := n1_; have HB := n2_; have HO610 := n3_; clear n0_ n1_ n2_ n3_; clear ho hb hg hat)); try go_wp2_with (first | (go_at_call 36; (with_reducible refine (spec_l6Rd_pick.calls k1 g598 t596 x599001_1 61 t606 t607 w _ ?side1 ?side2 A9.out).mono ?_); (case side1 => exact qq8 HI598.out); (case side2 => exact qq53); rintro e w12 ⟨rfl, hi, hb, hk⟩; have n0_ := Aside0.mk (Kd.R_mono (Kd.R_keep (IsS61.apart (show IsS61 w _ g598 t596 x599001_1 from by repeat (first | (with_reducible first | exact HI598.out | apply IsS61.alloc | apply IsS61.drewN | apply IsS61.drew | apply IsS61.set_1) | exact HI598.out)) (qq2 HO_5.out) (by decide)) hk (fun _ h => h.2)) (fun _ h => h.1)); have n1_ := Aside0.mk (Kd.R_mono (Kd.R_keep (IsS61.apart (show IsS61 w _ g598 t596 x599001_1 from by repeat (first | (with_reducible first | exact HI598.out | apply IsS61.alloc | apply IsS61.drewN | apply IsS61.drew | apply IsS61.set_1) | exact HI598.out)) (qq2 HO_6.out) (by decide)) hk (fun _ h => h.2)) (fun _ h => h.1)); have n2_ := Aside0.mk (hb); have n3_ := Aside0.mk (hi); clear HO_5; clear HO_6; clear HB; clear HI598; have HO_5 := n0_; have HO_6 := n1_; have HB := n2_; have HI598 := n3_; clear n0_ n1_ n2_ n3_; (try clear hb); (try clear hb2); (try clear hk); (try clear hi)) | ((with_reducible refine gate_builtin (b := .append) (xs := #[.tmp 19, .tmp 23]) rfl ?_); at_builtin; refine Kd.R_append (Kd.int .i64) (w0 := w) w.heap.size rfl (.tmp 19) (.tmp 23) 27 3 (.int .i64 0) 8 rfl Try.underlying27 info3 rfl (by decide) (by omega) u6 x6_1 (wrap64 (t606 - 30)) [.int .i64 (wrap64 (t606 - 30))] (fun k_ => some k_ ≠ (.slice Ao11 t599.length co11 : Value).ownBlock) (fun _ => False) rfl rfl ?aP (fun _ hk => hk.elim) ?aF ?aO ?aB ?aS ?aL ?_; (case aP => exact rfl); (case aB => exact (qq7 HB.out HI598.out)); (case aF => exact qq48 HO_5.out); (case aO => exact (qq2 HO_6.out)); (case aS => exact (below_size (qq7 HB.out HI598.out))); (case aL => have := LMc10.out; omega); intro v609 w13 ho hb hg hat; rw [← Ny608.out] at ho; have n0_ := Aside0.mk (Kd.R_after (ok := (fun _ => True)) (qq23 HO_5.out) hg hat); have n1_ := Aside0.mk (IsS61.grown (qq8 HI598.out) hg (IsS61.own_ne HI598.out HO_6.out (by decide))); have n2_ := Aside0.mk (hb); have n3_ := Aside0.mk (ho); clear HO_5; clear HI598; clear HB; clear HO_6; have HO_5 := n0_; have HI598 := n1_; have HB := n2_; have HO610 := n3_; clear n0_ n1_ n2_ n3_; clear ho hb hg hat)))
          go_roundg k1
          case measure => have := HK1.out; omega
          case rel => exact ⟨(y608), (wrap64 (x7_1 + 1)), (t607), qq9, H', ⟨by have := HK1.out; omega⟩, ⟨qq18 HO_5.out⟩, ⟨qq2 HO610.out⟩, ⟨qq8 HI598.out⟩, ⟨qq7 HB.out HI598.out⟩⟩
        · rw [if_neg c10] at H
          exact absurd H (by simp)
      · rw [if_neg c8] at H
        have c8b0 : decide (x7_1 < (t599.length : Int)) = false := decide_eq_false c8
        clear c8
        by_cases c14 : (x6_1.length : Int) > 0
        · rw [if_pos c14] at H
          have c14b0 : decide (0 < (x6_1.length : Int)) = true := decide_eq_true c14
          have c14b1 : decide (0 < x6_1.length) = true := decide_eq_true (by omega)
          clear c14
          replace H := Option.bind_eq_some_iff.mp H
          obtain ⟨⟨t611, t612⟩, A150, H⟩ := H
          replace H : (if t611 = 0 then (if 0 < (x6_1.length : Int) then (some (t599, (x6_1.set (0 : Int).toNat 100001))) else (none)) else (if t611 = 1 then (if 1 ≤ (x6_1.length : Int) then (some (t599, (x6_1.drop (1 : Int).toNat))) else (none)) else (some (t599, x6_1)))) = some (r1, r2) := H
          have A15 := Aside0.mk A150
          clear A150
          by_cases c16 : t611 = 0
          · rw [if_pos c16] at H
            have c16b0 : (t611 == 0) = true := beq_iff_eq.mpr c16
            have c16b1 : (t611 != 0) = false := bne_eq_false_iff_eq.mpr c16
            clear c16
            by_cases c17 : 0 < (x6_1.length : Int)
            · rw [if_pos c17] at H
              have c17b0 : decide (0 < (x6_1.length : Int)) = true := decide_eq_true c17
              have c17b1 : decide (0 < x6_1.length) = true := decide_eq_true (by omega)
              clear c17
              obtain ⟨y613, hy613⟩ : ∃ y_ : List Int, y_ = (x6_1.set (0 : Int).toNat 100001) := ⟨_, rfl⟩
              replace H : (some (t599, y613)) = some (r1, r2) := by first | (rw [hy613]; with_reducible exact H) | (have H2_ := (Option.bind_some _ _).symm.trans H; rw [hy613]; with_reducible exact H2_) | (have H2_ := (Option.bind_some _ _).symm.trans H; with_reducible exact H2_) | with_reducible exact H | (rw [hy613]; exact H) | exact H
              have Ny613 := Aside0.mk hy613
              clear hy613
              simp only [Option.some.injEq, Prod.mk.injEq] at H
              obtain ⟨rfl, rfl⟩ := H
              obtain ⟨Ao19, co19, eo19⟩ := Kd.R_slice HO_5.out
              subst eo19
              obtain ⟨Ao20, co20, eo20⟩ := Kd.R_slice HO_6.out
              subst eo20
              go_wp2_with (first | (go_at_call 36; (with_reducible refine (spec_l6Rd_pick.calls k1 g598 t596 x599001_1 24 t611 t612 w _ ?side1 ?side2 A15.out).mono ?_); (case side1 => exact qq8 HI598.out); (case side2 => exact qq53); rintro e w21 ⟨rfl, hi, hb, hk⟩; have n0_ := Aside0.mk (Kd.R_mono (Kd.R_keep (IsS61.apart (show IsS61 w _ g598 t596 x599001_1 from by repeat (first | (with_reducible first | exact HI598.out | apply IsS61.alloc | apply IsS61.drewN | apply IsS61.drew | apply IsS61.set_1) | exact HI598.out)) (qq2 HO_5.out) (by decide)) hk (fun _ h => h.2)) (fun _ h => h.1)); have n1_ := Aside0.mk (Kd.R_mono (Kd.R_keep (IsS61.apart (show IsS61 w _ g598 t596 x599001_1 from by repeat (first | (with_reducible first | exact HI598.out | apply IsS61.alloc | apply IsS61.drewN | apply IsS61.drew | apply IsS61.set_1) | exact HI598.out)) (qq2 HO_6.out) (by decide)) hk (fun _ h => h.2)) (fun _ h => h.1)); have n2_ := Aside0.mk (hb); have n3_ := Aside0.mk (hi); clear HO_5; clear HO_6; clear HB; clear HI598; have HO_5 := n0_; have HO_6 := n1_; have HB := n2_; have HI598 := n3_; clear n0_ n1_ n2_ n3_; (try clear hb); (try clear hb2); (try clear hk); (try clear hi); have p18 : 0 ≤ (0 : Int) := (by omega); have q18 : (0 : Int) < ((x6_1.length : Int) : Int) := of_decide_eq_true qq3; have qi18 : (0 < x6_1.length) = True := eq_true (by omega); obtain ⟨go18, co18, eo18, gb18, gl18, cl18, HG18⟩ := Kd.R_form HO_6.out (by omega); (first | cases eo18 | (injection eo18 with ea_ en_ ec_; (first | subst ea_ | (injection ea_ with ea_; subst ea_)); subst ec_; clear en_)); have GB18 := Aside0.mk gb18; have GG18 := Aside0.mk HG18; clear gb18 gl18 HG18; obtain ⟨hx18_0, hf18_0⟩ := Kd.R_celln 0 HO_6.out (0 : Int) p18 q18; (try rw [show ((0 : Int)).toNat = 0 from rfl] at hx18_0); (try simp only [Nat.reduceMul, Nat.zero_mul, Nat.zero_add, Nat.reduceAdd] at hx18_0); (try rw [show ((0 : Int)).toNat = 0 from rfl] at hf18_0); (try simp only [Nat.reduceMul, Nat.zero_mul, Nat.zero_add, Nat.reduceAdd] at hf18_0); replace p18 := eq_true p18; replace q18 := eq_true q18; obtain ⟨hy22_, hz22_⟩ := Kd.R_celln 0 HO_6.out (0 : Int) (by omega) (of_decide_eq_true qq3); (try simp only [Int.reduceToNat, Int.toNat_zero, Int.toNat_ofNat, Nat.reduceMul, Nat.zero_mul, Nat.zero_add] at hy22_ hz22_); (try rw [show ((0 : Int)).toNat = 0 from rfl] at hy22_); (try rw [show ((0 : Int)).toNat = 0 from rfl] at hz22_); have HP22 := Kd.R_putg HO_6.out (0 : Int) 100001) | ((with_reducible refine gate_store (t := 3) (p := 33) rfl ?_); (try (rw [drewN_self w21]; generalize hq_ : World.drewN w21 _ = w21; have n0_ := Aside0.mk (Kd.R_at hq_ HO_5.out); have n1_ := Aside0.mk (Kd.R_at hq_ HO_6.out); have n2_ := Aside0.mk (IsS61.at_ hq_ HI598.out); have n3_ := Aside0.mk (below_at hq_ HB.out); clear hq_ HO_5 HO_6 HI598 HB; have HO_5 := n0_; have HO_6 := n1_; have HI598 := n2_; have HB := n3_; clear n0_ n1_ n2_ n3_; (try (obtain ⟨hy22_, hz22_⟩ := Kd.R_celln 0 HO_6.out (0 : Int) (by omega) (of_decide_eq_true qq3))); (try (try simp only [Int.reduceToNat, Int.toNat_zero, Int.toNat_ofNat, Nat.reduceMul, Nat.zero_mul, Nat.zero_add] at hy22_ hz22_)); (try (try rw [show ((0 : Int)).toNat = 0 from rfl] at hy22_)); (try (try rw [show ((0 : Int)).toNat = 0 from rfl] at hz22_)); (try (have HP22 := Kd.R_putg HO_6.out (0 : Int) 100001)))); refine store_event (t := 3) (p := 33) (v := ?vo_w23) (w1 := (w21.setCell ⟨go18, (0 : Int).toNat, none⟩ (.int .i64 100001))) ?hg ?ho ?hn ?hr ?_; (case ho => rfl); (case hg => rfl); (case hn => rfl); (case hr => exact qq17); intro w23 hw; have hg : w21.grownBy w23 (some go18) := (by rw [hw]; exact HP22.2); have hp_ : Kd.R (Kd.int .i64) 3 w23 w.heap.size (fun k_ => some k_ ≠ (.slice Ao19 t599.length co19 : Value).ownBlock) (.slice (some ⟨go18, 0, none⟩) x6_1.length co20) y613 := (by rw [hw, Ny613.out]; exact HP22.1); clear HP22; have n0_ := Aside0.mk (Kd.R_after (v := (.slice (some ⟨go18, 0, none⟩) x6_1.length co20)) (v1 := (.slice (some ⟨go18, 0, none⟩) x6_1.length co20)) (ok := (fun _ => True)) (qq23 HO_5.out) hg (.inl rfl)); have n1_ := Aside0.mk (hp_); have n2_ := Aside0.mk (IsS61.grown (qq8 HI598.out) hg (IsS61.own_ne HI598.out HO_6.out (by decide))); have n3_ := Aside0.mk ((qq67 : Below w.heap.size w w23)); clear HO_5; clear HO_6; clear HI598; clear HB; have HO_5 := n0_; have HO_6 := n1_; have HI598 := n2_; have HB := n3_; clear n0_ n1_ n2_ n3_; clear hg hw hp_))
              repeat (go_quiet (first | (go_at_call 36; (with_reducible refine (spec_l6Rd_pick.calls k1 g598 t596 x599001_1 24 t611 t612 w _ ?side1 ?side2 A15.out).mono ?_); (case side1 => exact qq8 HI598.out); (case side2 => exact qq53); rintro e w21 ⟨rfl, hi, hb, hk⟩; have n0_ := Aside0.mk (Kd.R_mono (Kd.R_keep (IsS61.apart (show IsS61 w _ g598 t596 x599001_1 from by repeat (first | (with_reducible first | exact HI598.out | apply IsS61.alloc | apply IsS61.drewN | apply IsS61.drew | apply IsS61.set_1) | exact HI598.out)) (qq2 HO_5.out) (by decide)) hk (fun _ h => h.2)) (fun _ h => h.1)); have n1_ := Aside0.mk (Kd.R_mono (Kd.R_keep (IsS61.apart (show IsS61 w _ g598 t596 x599001_1 from by repeat (first | (with_reducible first | exact HI598.out | apply IsS61.alloc | apply IsS61.drewN | apply IsS61.drew | apply IsS61.set_1) | exact HI598.out)) (qq2 HO_6.out) (by decide)) hk (fun _ h => h.2)) (fun _ h => h.1)); have n2_ := Aside0.mk (hb); have n3_ := Aside0.mk (hi); clear HO_5; clear HO_6; clear HB; clear HI598; have HO_5 := n0_; have HO_6 := n1_; have HB := n2_; have HI598 := n3_; clear n0_ n1_ n2_ n3_; (try clear hb); (try clear hb2); (try clear hk); (try clear hi); have p18 : 0 ≤ (0 : Int) := (by omega); have q18 : (0 : Int) < ((x6_1.length : Int) : Int) := of_decide_eq_true qq3; have qi18 : (0 < x6_1.length) = True := eq_true (by omega); obtain ⟨go18, co18, eo18, gb18, gl18, cl18, HG18⟩ := Kd.R_form HO_6.out (by omega); (first | cases eo18 | (injection eo18 with ea_ en_ ec_; (first | subst ea_ | (injection ea_ with ea_; subst ea_)); subst ec_; clear en_)); have GB18 := Aside0.mk gb18; have GG18 := Aside0.mk HG18; clear gb18 gl18 HG18; obtain ⟨hx18_0, hf18_0⟩ := Kd.R_celln 0 HO_6.out (0 : Int) p18 q18; (try rw [show ((0 : Int)).toNat = 0 from rfl] at hx18_0); (try simp only [Nat.reduceMul, Nat.zero_mul, Nat.zero_add, Nat.reduceAdd] at hx18_0); (try rw [show ((0 : Int)).toNat = 0 from rfl] at hf18_0); (try simp only [Nat.reduceMul, Nat.zero_mul, Nat.zero_add, Nat.reduceAdd] at hf18_0); replace p18 := eq_true p18; replace q18 := eq_true q18; obtain ⟨hy22_, hz22_⟩ := Kd.R_celln 0 HO_6.out (0 : Int) (by omega) (of_decide_eq_true qq3); (try simp only [Int.reduceToNat, Int.toNat_zero, Int.toNat_ofNat, Nat.reduceMul, Nat.zero_mul, Nat.zero_add] at hy22_ hz22_); (try rw [show ((0 : Int)).toNat = 0 from rfl] at hy22_); (try rw [show ((0 : Int)).toNat = 0 from rfl] at hz22_); have HP22 := Kd.R_putg HO_6.out (0 : Int) 100001) | ((with_reducible refine gate_store (t := 3) (p := 33) rfl ?_); (try (rw [drewN_self w21]; generalize hq_ : World.drewN w21 _ = w21; have n0_ := Aside0.mk (Kd.R_at hq_ HO_5.out); have n1_ := Aside0.mk (Kd.R_at hq_ HO_6.out); have n2_ := Aside0.mk (IsS61.at_ hq_ HI598.out); have n3_ := Aside0.mk (below_at hq_ HB.out); clear hq_ HO_5 HO_6 HI598 HB; have HO_5 := n0_; have HO_6 := n1_; have HI598 := n2_; have HB := n3_; clear n0_ n1_ n2_ n3_; (try (obtain ⟨hy22_, hz22_⟩ := Kd.R_celln 0 HO_6.out (0 : Int) (by omega) (of_decide_eq_true qq3))); (try (try simp only [Int.reduceToNat, Int.toNat_zero, Int.toNat_ofNat, Nat.reduceMul, Nat.zero_mul, Nat.zero_add] at hy22_ hz22_)); (try (try rw [show ((0 : Int)).toNat = 0 from rfl] at hy22_)); (try (try rw [show ((0 : Int)).toNat = 0 from rfl] at hz22_)); (try (have HP22 := Kd.R_putg HO_6.out (0 : Int) 100001)))); refine store_event (t := 3) (p := 33) (v := ?vo_w23) (w1 := (w21.setCell ⟨go18, (0 : Int).toNat, none⟩ (.int .i64 100001))) ?hg ?ho ?hn ?hr ?_; (case ho => rfl); (case hg => rfl); (case hn => rfl); (case hr => exact qq17); intro w23 hw; have hg : w21.grownBy w23 (some go18) := (by rw [hw]; exact HP22.2); have hp_ : Kd.R (Kd.int .i64) 3 w23 w.heap.size (fun k_ => some k_ ≠ (.slice Ao19 t599.length co19 : Value).ownBlock) (.slice (some ⟨go18, 0, none⟩) x6_1.length co20) y613 := (by rw [hw, Ny613.out]; exact HP22.1); clear HP22; have n0_ := Aside0.mk (Kd.R_after (v := (.slice (some ⟨go18, 0, none⟩) x6_1.length co20)) (v1 := (.slice (some ⟨go18, 0, none⟩) x6_1.length co20)) (ok := (fun _ => True)) (qq23 HO_5.out) hg (.inl rfl)); have n1_ := Aside0.mk (hp_); have n2_ := Aside0.mk (IsS61.grown (qq8 HI598.out) hg (IsS61.own_ne HI598.out HO_6.out (by decide))); have n3_ := Aside0.mk ((qq67 : Below w.heap.size w w23)); clear HO_5; clear HO_6; clear HI598; clear HB; have HO_5 := n0_; have HO_6 := n1_; have HI598 := n2_; have HB := n3_; clear n0_ n1_ n2_ n3_; clear hg hw hp_)); try go_wp2_with (first | (go_at_call 36; (with_reducible refine (spec_l6Rd_pick.calls k1 g598 t596 x599001_1 24 t611 t612 w _ ?side1 ?side2 A15.out).mono ?_); (case side1 => exact qq8 HI598.out); (case side2 => exact qq53); rintro e w21 ⟨rfl, hi, hb, hk⟩; have n0_ := Aside0.mk (Kd.R_mono (Kd.R_keep (IsS61.apart (show IsS61 w _ g598 t596 x599001_1 from by repeat (first | (with_reducible first | exact HI598.out | apply IsS61.alloc | apply IsS61.drewN | apply IsS61.drew | apply IsS61.set_1) | exact HI598.out)) (qq2 HO_5.out) (by decide)) hk (fun _ h => h.2)) (fun _ h => h.1)); have n1_ := Aside0.mk (Kd.R_mono (Kd.R_keep (IsS61.apart (show IsS61 w _ g598 t596 x599001_1 from by repeat (first | (with_reducible first | exact HI598.out | apply IsS61.alloc | apply IsS61.drewN | apply IsS61.drew | apply IsS61.set_1) | exact HI598.out)) (qq2 HO_6.out) (by decide)) hk (fun _ h => h.2)) (fun _ h => h.1)); have n2_ := Aside0.mk (hb); have n3_ := Aside0.mk (hi); clear HO_5; clear HO_6; clear HB; clear HI598; have HO_5 := n0_; have HO_6 := n1_; have HB := n2_; have HI598 := n3_; clear n0_ n1_ n2_ n3_; (try clear hb); (try clear hb2); (try clear hk); (try clear hi); have p18 : 0 ≤ (0 : Int) := (by omega); have q18 : (0 : Int) < ((x6_1.length : Int) : Int) := of_decide_eq_true qq3; have qi18 : (0 < x6_1.length) = True := eq_true (by omega); obtain ⟨go18, co18, eo18, gb18, gl18, cl18, HG18⟩ := Kd.R_form HO_6.out (by omega); (first | cases eo18 | (injection eo18 with ea_ en_ ec_; (first | subst ea_ | (injection ea_ with ea_; subst ea_)); subst ec_; clear en_)); have GB18 := Aside0.mk gb18; have GG18 := Aside0.mk HG18; clear gb18 gl18 HG18; obtain ⟨hx18_0, hf18_0⟩ := Kd.R_celln 0 HO_6.out (0 : Int) p18 q18; (try rw [show ((0 : Int)).toNat = 0 from rfl] at hx18_0); (try simp only [Nat.reduceMul, Nat.zero_mul, Nat.zero_add, Nat.reduceAdd] at hx18_0); (try rw [show ((0 : Int)).toNat = 0 from rfl] at hf18_0); (try simp only [Nat.reduceMul, Nat.zero_mul, Nat.zero_add, Nat.reduceAdd] at hf18_0); replace p18 := eq_true p18; replace q18 := eq_true q18; obtain ⟨hy22_, hz22_⟩ := Kd.R_celln 0 HO_6.out (0 : Int) (by omega) (of_decide_eq_true qq3); (try simp only [Int.reduceToNat, Int.toNat_zero, Int.toNat_ofNat, Nat.reduceMul, Nat.zero_mul, Nat.zero_add] at hy22_ hz22_); (try rw [show ((0 : Int)).toNat = 0 from rfl] at hy22_); (try rw [show ((0 : Int)).toNat = 0 from rfl] at hz22_); have HP22 := Kd.R_putg HO_6.out (0 : Int) 100001) | ((with_reducible refine gate_store (t := 3) (p := 33) rfl ?_); (try (rw [drewN_self w21]; generalize hq_ : World.drewN w21 _ = w21; have n0_ := Aside0.mk (Kd.R_at hq_ HO_5.out); have n1_ := Aside0.mk (Kd.R_at hq_ HO_6.out); have n2_ := Aside0.mk (IsS61.at_ hq_ HI598.out); have n3_ := Aside0.mk (below_at hq_ HB.out); clear hq_ HO_5 HO_6 HI598 HB; have HO_5 := n0_; have HO_6 := n1_; have HI598 := n2_; have HB := n3_; clear n0_ n1_ n2_ n3_; (try (obtain ⟨hy22_, hz22_⟩ := Kd.R_celln 0 HO_6.out (0 : Int) (by omega) (of_decide_eq_true qq3))); (try (try simp only [Int.reduceToNat, Int.toNat_zero, Int.toNat_ofNat, Nat.reduceMul, Nat.zero_mul, Nat.zero_add] at hy22_ hz22_)); (try (try rw [show ((0 : Int)).toNat = 0 from rfl] at hy22_)); (try (try rw [show ((0 : Int)).toNat = 0 from rfl] at hz22_)); (try (have HP22 := Kd.R_putg HO_6.out (0 : Int) 100001)))); refine store_event (t := 3) (p := 33) (v := ?vo_w23) (w1 := (w21.setCell ⟨go18, (0 : Int).toNat, none⟩ (.int .i64 100001))) ?hg ?ho ?hn ?hr ?_; (case ho => rfl); (case hg => rfl); (case hn => rfl); (case hr => exact qq17); intro w23 hw; have hg : w21.grownBy w23 (some go18) := (by rw [hw]; exact HP22.2); have hp_ : Kd.R (Kd.int .i64) 3 w23 w.heap.size (fun k_ => some k_ ≠ (.slice Ao19 t599.length co19 : Value).ownBlock) (.slice (some ⟨go18, 0, none⟩) x6_1.length co20) y613 := (by rw [hw, Ny613.out]; exact HP22.1); clear HP22; have n0_ := Aside0.mk (Kd.R_after (v := (.slice (some ⟨go18, 0, none⟩) x6_1.length co20)) (v1 := (.slice (some ⟨go18, 0, none⟩) x6_1.length co20)) (ok := (fun _ => True)) (qq23 HO_5.out) hg (.inl rfl)); have n1_ := Aside0.mk (hp_); have n2_ := Aside0.mk (IsS61.grown (qq8 HI598.out) hg (IsS61.own_ne HI598.out HO_6.out (by decide))); have n3_ := Aside0.mk ((qq67 : Below w.heap.size w w23)); clear HO_5; clear HO_6; clear HI598; clear HB; have HO_5 := n0_; have HO_6 := n1_; have HI598 := n2_; have HB := n3_; clear n0_ n1_ n2_ n3_; clear hg hw hp_)))
              go_ret2
              exact ⟨_, _, qq12, qq18 HO_5.out, Kd.Q_of_R (qq2 HO_6.out), qq7 HB.out HI598.out⟩
            · rw [if_neg c17] at H
              exact absurd H (by simp)
          · rw [if_neg c16] at H
            have c16b0 : (t611 == 0) = false := beq_eq_false_iff_ne.mpr c16
            have c16b1 : (t611 != 0) = true := bne_iff_ne.mpr c16
            by_cases c24 : t611 = 1
            · rw [if_pos c24] at H
              have c24b0 : (t611 == 1) = true := beq_iff_eq.mpr c24
              have c24b1 : (t611 != 1) = false := bne_eq_false_iff_eq.mpr c24
              clear c24
              by_cases c25 : 1 ≤ (x6_1.length : Int)
              · rw [if_pos c25] at H
                have c25b0 := eq_true c25
                have c25b1 : decide (1 ≤ (x6_1.length : Int)) = true := decide_eq_true c25
                clear c25
                obtain ⟨y614, hy614⟩ : ∃ y_ : List Int, y_ = (x6_1.drop (1 : Int).toNat) := ⟨_, rfl⟩
                replace H : (some (t599, y614)) = some (r1, r2) := by first | (rw [hy614]; with_reducible exact H) | (have H2_ := (Option.bind_some _ _).symm.trans H; rw [hy614]; with_reducible exact H2_) | (have H2_ := (Option.bind_some _ _).symm.trans H; with_reducible exact H2_) | with_reducible exact H | (rw [hy614]; exact H) | exact H
                have Ny614 := Aside0.mk hy614
                clear hy614
                simp only [Option.some.injEq, Prod.mk.injEq] at H
                obtain ⟨rfl, rfl⟩ := H
                obtain ⟨Ao26, co26, eo26⟩ := Kd.R_slice HO_5.out
                subst eo26
                obtain ⟨Ao27, co27, eo27⟩ := Kd.R_slice HO_6.out
                subst eo27
                go_wp2_with (first | (go_at_call 36; (with_reducible refine (spec_l6Rd_pick.calls k1 g598 t596 x599001_1 24 t611 t612 w _ ?side1 ?side2 A15.out).mono ?_); (case side1 => exact qq8 HI598.out); (case side2 => exact qq53); rintro e w28 ⟨rfl, hi, hb, hk⟩; have n0_ := Aside0.mk (Kd.R_mono (Kd.R_keep (IsS61.apart (show IsS61 w _ g598 t596 x599001_1 from by repeat (first | (with_reducible first | exact HI598.out | apply IsS61.alloc | apply IsS61.drewN | apply IsS61.drew | apply IsS61.set_1) | exact HI598.out)) (qq2 HO_5.out) (by decide)) hk (fun _ h => h.2)) (fun _ h => h.1)); have n1_ := Aside0.mk (Kd.R_mono (Kd.R_keep (IsS61.apart (show IsS61 w _ g598 t596 x599001_1 from by repeat (first | (with_reducible first | exact HI598.out | apply IsS61.alloc | apply IsS61.drewN | apply IsS61.drew | apply IsS61.set_1) | exact HI598.out)) (qq2 HO_6.out) (by decide)) hk (fun _ h => h.2)) (fun _ h => h.1)); have n2_ := Aside0.mk (hb); have n3_ := Aside0.mk (hi); clear HO_5; clear HO_6; clear HB; clear HI598; have HO_5 := n0_; have HO_6 := n1_; have HB := n2_; have HI598 := n3_; clear n0_ n1_ n2_ n3_; (try clear hb); (try clear hb2); (try clear hk); (try clear hi); have q29 : (1 : Int) ≤ ((x6_1.length : Int) : Int) := of_decide_eq_true qq3; obtain ⟨i029, hi029, _, hsz29, _⟩ := info_parts info3; have hcut29 := cut_from (P := Try.prog) 27 3 .i64 Try.underlying27 hi029 1 hsz29 Ao27 x6_1.length co27 1 (by omega) q29; have hr29 := Kd.Q_drop (k := (1 : Int).toNat) (Kd.Q_of_R HO_6.out) (by omega); obtain ⟨A29, hA29⟩ : ∃ Az_, Az_ = (if co27 = (1 : Int).toNat then Ao27 else (Ao27 : Option Addr).map (·.add ((1 : Int).toNat * 1))) := ⟨_, rfl⟩; obtain ⟨c29, hc29⟩ : ∃ cz_, cz_ = co27 - (1 : Int).toNat := ⟨_, rfl⟩; have hy29 : y614.length = x6_1.length - (1 : Int).toNat := (by rw [Ny614.out, List.length_drop]); rw [← Ny614.out] at hr29; rw [← hy29, ← hA29, ← hc29] at hcut29; replace hr29 : Kd.Q (Kd.int .i64) 3 w28 w.heap.size (fun k_ => some k_ ≠ (.slice Ao26 t599.length co26 : Value).ownBlock) (.slice A29 y614.length c29) y614 := (by rw [hA29, hc29, hy29]; exact hr29); have HE29 : Aside0 ((Value.slice A29 y614.length c29).ownBlock = (.slice Ao27 x6_1.length co27 : Value).ownBlock) := ⟨qq69⟩; clear hy29 hi029 hsz29 HO_6 hA29 hc29; have HO616 := Aside0.mk hr29; clear hr29; replace q29 := eq_true q29; have n_ := Aside0.mk (Kd.R_mono (ok' := fun k_ => some k_ ≠ (.slice A29 y614.length c29 : Value).ownBlock) HO_5.out (fun k_ hk => (by rw [HE29.out]; exact hk))); clear HO_5; have HO_5 := n_; clear n_))
                repeat (go_quiet (first | (go_at_call 36; (with_reducible refine (spec_l6Rd_pick.calls k1 g598 t596 x599001_1 24 t611 t612 w _ ?side1 ?side2 A15.out).mono ?_); (case side1 => exact qq8 HI598.out); (case side2 => exact qq53); rintro e w28 ⟨rfl, hi, hb, hk⟩; have n0_ := Aside0.mk (Kd.R_mono (Kd.R_keep (IsS61.apart (show IsS61 w _ g598 t596 x599001_1 from by repeat (first | (with_reducible first | exact HI598.out | apply IsS61.alloc | apply IsS61.drewN | apply IsS61.drew | apply IsS61.set_1) | exact HI598.out)) (qq2 HO_5.out) (by decide)) hk (fun _ h => h.2)) (fun _ h => h.1)); have n1_ := Aside0.mk (Kd.R_mono (Kd.R_keep (IsS61.apart (show IsS61 w _ g598 t596 x599001_1 from by repeat (first | (with_reducible first | exact HI598.out | apply IsS61.alloc | apply IsS61.drewN | apply IsS61.drew | apply IsS61.set_1) | exact HI598.out)) (qq2 HO_6.out) (by decide)) hk (fun _ h => h.2)) (fun _ h => h.1)); have n2_ := Aside0.mk (hb); have n3_ := Aside0.mk (hi); clear HO_5; clear HO_6; clear HB; clear HI598; have HO_5 := n0_; have HO_6 := n1_; have HB := n2_; have HI598 := n3_; clear n0_ n1_ n2_ n3_; (try clear hb); (try clear hb2); (try clear hk); (try clear hi); have q29 : (1 : Int) ≤ ((x6_1.length : Int) : Int) := of_decide_eq_true qq3; obtain ⟨i029, hi029, _, hsz29, _⟩ := info_parts info3; have hcut29 := cut_from (P := Try.prog) 27 3 .i64 Try.underlying27 hi029 1 hsz29 Ao27 x6_1.length co27 1 (by omega) q29; have hr29 := Kd.Q_drop (k := (1 : Int).toNat) (Kd.Q_of_R HO_6.out) (by omega); obtain ⟨A29, hA29⟩ : ∃ Az_, Az_ = (if co27 = (1 : Int).toNat then Ao27 else (Ao27 : Option Addr).map (·.add ((1 : Int).toNat * 1))) := ⟨_, rfl⟩; obtain ⟨c29, hc29⟩ : ∃ cz_, cz_ = co27 - (1 : Int).toNat := ⟨_, rfl⟩; have hy29 : y614.length = x6_1.length - (1 : Int).toNat := (by rw [Ny614.out, List.length_drop]); rw [← Ny614.out] at hr29; rw [← hy29, ← hA29, ← hc29] at hcut29; replace hr29 : Kd.Q (Kd.int .i64) 3 w28 w.heap.size (fun k_ => some k_ ≠ (.slice Ao26 t599.length co26 : Value).ownBlock) (.slice A29 y614.length c29) y614 := (by rw [hA29, hc29, hy29]; exact hr29); have HE29 : Aside0 ((Value.slice A29 y614.length c29).ownBlock = (.slice Ao27 x6_1.length co27 : Value).ownBlock) := ⟨qq69⟩; clear hy29 hi029 hsz29 HO_6 hA29 hc29; have HO616 := Aside0.mk hr29; clear hr29; replace q29 := eq_true q29; have n_ := Aside0.mk (Kd.R_mono (ok' := fun k_ => some k_ ≠ (.slice A29 y614.length c29 : Value).ownBlock) HO_5.out (fun k_ hk => (by rw [HE29.out]; exact hk))); clear HO_5; have HO_5 := n_; clear n_)); try go_wp2_with (first | (go_at_call 36; (with_reducible refine (spec_l6Rd_pick.calls k1 g598 t596 x599001_1 24 t611 t612 w _ ?side1 ?side2 A15.out).mono ?_); (case side1 => exact qq8 HI598.out); (case side2 => exact qq53); rintro e w28 ⟨rfl, hi, hb, hk⟩; have n0_ := Aside0.mk (Kd.R_mono (Kd.R_keep (IsS61.apart (show IsS61 w _ g598 t596 x599001_1 from by repeat (first | (with_reducible first | exact HI598.out | apply IsS61.alloc | apply IsS61.drewN | apply IsS61.drew | apply IsS61.set_1) | exact HI598.out)) (qq2 HO_5.out) (by decide)) hk (fun _ h => h.2)) (fun _ h => h.1)); have n1_ := Aside0.mk (Kd.R_mono (Kd.R_keep (IsS61.apart (show IsS61 w _ g598 t596 x599001_1 from by repeat (first | (with_reducible first | exact HI598.out | apply IsS61.alloc | apply IsS61.drewN | apply IsS61.drew | apply IsS61.set_1) | exact HI598.out)) (qq2 HO_6.out) (by decide)) hk (fun _ h => h.2)) (fun _ h => h.1)); have n2_ := Aside0.mk (hb); have n3_ := Aside0.mk (hi); clear HO_5; clear HO_6; clear HB; clear HI598; have HO_5 := n0_; have HO_6 := n1_; have HB := n2_; have HI598 := n3_; clear n0_ n1_ n2_ n3_; (try clear hb); (try clear hb2); (try clear hk); (try clear hi); have q29 : (1 : Int) ≤ ((x6_1.length : Int) : Int) := of_decide_eq_true qq3; obtain ⟨i029, hi029, _, hsz29, _⟩ := info_parts info3; have hcut29 := cut_from (P := Try.prog) 27 3 .i64 Try.underlying27 hi029 1 hsz29 Ao27 x6_1.length co27 1 (by omega) q29; have hr29 := Kd.Q_drop (k := (1 : Int).toNat) (Kd.Q_of_R HO_6.out) (by omega); obtain ⟨A29, hA29⟩ : ∃ Az_, Az_ = (if co27 = (1 : Int).toNat then Ao27 else (Ao27 : Option Addr).map (·.add ((1 : Int).toNat * 1))) := ⟨_, rfl⟩; obtain ⟨c29, hc29⟩ : ∃ cz_, cz_ = co27 - (1 : Int).toNat := ⟨_, rfl⟩; have hy29 : y614.length = x6_1.length - (1 : Int).toNat := (by rw [Ny614.out, List.length_drop]); rw [← Ny614.out] at hr29; rw [← hy29, ← hA29, ← hc29] at hcut29; replace hr29 : Kd.Q (Kd.int .i64) 3 w28 w.heap.size (fun k_ => some k_ ≠ (.slice Ao26 t599.length co26 : Value).ownBlock) (.slice A29 y614.length c29) y614 := (by rw [hA29, hc29, hy29]; exact hr29); have HE29 : Aside0 ((Value.slice A29 y614.length c29).ownBlock = (.slice Ao27 x6_1.length co27 : Value).ownBlock) := ⟨qq69⟩; clear hy29 hi029 hsz29 HO_6 hA29 hc29; have HO616 := Aside0.mk hr29; clear hr29; replace q29 := eq_true q29; have n_ := Aside0.mk (Kd.R_mono (ok' := fun k_ => some k_ ≠ (.slice A29 y614.length c29 : Value).ownBlock) HO_5.out (fun k_ hk => (by rw [HE29.out]; exact hk))); clear HO_5; have HO_5 := n_; clear n_)))
                go_ret2
                exact ⟨_, _, qq12, qq2 HO_5.out, by (with_reducible repeat (first | apply Kd.Q_alloc | apply Kd.Q_drewN | apply Kd.Q_drew)); exact HO616.out, qq7 HB.out HI598.out⟩
              · rw [if_neg c25] at H
                exact absurd H (by simp)
            · rw [if_neg c24] at H
              have c24b0 : (t611 == 1) = false := beq_eq_false_iff_ne.mpr c24
              have c24b1 : (t611 != 1) = true := bne_iff_ne.mpr c24
              simp only [Option.some.injEq, Prod.mk.injEq] at H
              obtain ⟨rfl, rfl⟩ := H
              obtain ⟨Ao30, co30, eo30⟩ := Kd.R_slice HO_5.out
              subst eo30
              obtain ⟨Ao31, co31, eo31⟩ := Kd.R_slice HO_6.out
              subst eo31
              go_wp2_with (first | (go_at_call 36; (with_reducible refine (spec_l6Rd_pick.calls k1 g598 t596 x599001_1 24 t611 t612 w _ ?side1 ?side2 A15.out).mono ?_); (case side1 => exact qq8 HI598.out); (case side2 => exact qq53); rintro e w32 ⟨rfl, hi, hb, hk⟩; have n0_ := Aside0.mk (Kd.R_mono (Kd.R_keep (IsS61.apart (show IsS61 w _ g598 t596 x599001_1 from by repeat (first | (with_reducible first | exact HI598.out | apply IsS61.alloc | apply IsS61.drewN | apply IsS61.drew | apply IsS61.set_1) | exact HI598.out)) (qq2 HO_5.out) (by decide)) hk (fun _ h => h.2)) (fun _ h => h.1)); have n1_ := Aside0.mk (Kd.R_mono (Kd.R_keep (IsS61.apart (show IsS61 w _ g598 t596 x599001_1 from by repeat (first | (with_reducible first | exact HI598.out | apply IsS61.alloc | apply IsS61.drewN | apply IsS61.drew | apply IsS61.set_1) | exact HI598.out)) (qq2 HO_6.out) (by decide)) hk (fun _ h => h.2)) (fun _ h => h.1)); have n2_ := Aside0.mk (hb); have n3_ := Aside0.mk (hi); clear HO_5; clear HO_6; clear HB; clear HI598; have HO_5 := n0_; have HO_6 := n1_; have HB := n2_; have HI598 := n3_; clear n0_ n1_ n2_ n3_; (try clear hb); (try clear hb2); (try clear hk); (try clear hi)))
              repeat (go_quiet (first | (go_at_call 36; (with_reducible refine (spec_l6Rd_pick.calls k1 g598 t596 x599001_1 24 t611 t612 w _ ?side1 ?side2 A15.out).mono ?_); (case side1 => exact qq8 HI598.out); (case side2 => exact qq53); rintro e w32 ⟨rfl, hi, hb, hk⟩; have n0_ := Aside0.mk (Kd.R_mono (Kd.R_keep (IsS61.apart (show IsS61 w _ g598 t596 x599001_1 from by repeat (first | (with_reducible first | exact HI598.out | apply IsS61.alloc | apply IsS61.drewN | apply IsS61.drew | apply IsS61.set_1) | exact HI598.out)) (qq2 HO_5.out) (by decide)) hk (fun _ h => h.2)) (fun _ h => h.1)); have n1_ := Aside0.mk (Kd.R_mono (Kd.R_keep (IsS61.apart (show IsS61 w _ g598 t596 x599001_1 from by repeat (first | (with_reducible first | exact HI598.out | apply IsS61.alloc | apply IsS61.drewN | apply IsS61.drew | apply IsS61.set_1) | exact HI598.out)) (qq2 HO_6.out) (by decide)) hk (fun _ h => h.2)) (fun _ h => h.1)); have n2_ := Aside0.mk (hb); have n3_ := Aside0.mk (hi); clear HO_5; clear HO_6; clear HB; clear HI598; have HO_5 := n0_; have HO_6 := n1_; have HB := n2_; have HI598 := n3_; clear n0_ n1_ n2_ n3_; (try clear hb); (try clear hb2); (try clear hk); (try clear hi))); try go_wp2_with (first | (go_at_call 36; (with_reducible refine (spec_l6Rd_pick.calls k1 g598 t596 x599001_1 24 t611 t612 w _ ?side1 ?side2 A15.out).mono ?_); (case side1 => exact qq8 HI598.out); (case side2 => exact qq53); rintro e w32 ⟨rfl, hi, hb, hk⟩; have n0_ := Aside0.mk (Kd.R_mono (Kd.R_keep (IsS61.apart (show IsS61 w _ g598 t596 x599001_1 from by repeat (first | (with_reducible first | exact HI598.out | apply IsS61.alloc | apply IsS61.drewN | apply IsS61.drew | apply IsS61.set_1) | exact HI598.out)) (qq2 HO_5.out) (by decide)) hk (fun _ h => h.2)) (fun _ h => h.1)); have n1_ := Aside0.mk (Kd.R_mono (Kd.R_keep (IsS61.apart (show IsS61 w _ g598 t596 x599001_1 from by repeat (first | (with_reducible first | exact HI598.out | apply IsS61.alloc | apply IsS61.drewN | apply IsS61.drew | apply IsS61.set_1) | exact HI598.out)) (qq2 HO_6.out) (by decide)) hk (fun _ h => h.2)) (fun _ h => h.1)); have n2_ := Aside0.mk (hb); have n3_ := Aside0.mk (hi); clear HO_5; clear HO_6; clear HB; clear HI598; have HO_5 := n0_; have HO_6 := n1_; have HB := n2_; have HI598 := n3_; clear n0_ n1_ n2_ n3_; (try clear hb); (try clear hb2); (try clear hk); (try clear hi))))
              go_ret2
              exact ⟨_, _, qq12, qq2 HO_5.out, Kd.Q_of_R (qq2 HO_6.out), qq7 HB.out HI598.out⟩
        · rw [if_neg c14] at H
          have c14b0 : decide (0 < (x6_1.length : Int)) = false := decide_eq_false c14
          have c14b1 : decide (0 < x6_1.length) = false := decide_eq_false (by omega)
          clear c14
          simp only [Option.some.injEq, Prod.mk.injEq] at H
          obtain ⟨rfl, rfl⟩ := H
          obtain ⟨Ao33, co33, eo33⟩ := Kd.R_slice HO_5.out
          subst eo33
          obtain ⟨Ao34, co34, eo34⟩ := Kd.R_slice HO_6.out
          subst eo34
          go_wp2
          repeat (go_quiet (fail); try go_wp2)
          go_ret2
          exact ⟨_, _, qq12, qq2 HO_5.out, Kd.Q_of_R (qq2 HO_6.out), qq7 HB.out HI598.out⟩

end Go.Proofs.Ytmcfhmflncghiaa.Q
