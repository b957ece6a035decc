/- Part 4 of what the proof of this law rests on: the functions of the translation as plain Lean functions with their walks, and the plain laws behind. -/
import Derived.Test.YtmcfhmflncghiaaMFnLoopErrors3
namespace Go.Proofs.Ytmcfhmflncghiaa.Q
open Go.RowKit Go.Proofs.YtmcfhmflncghiaaW.PrintWords Go.Proofs.YtmcfhmflncghiaaW.PrintLast Go.Proofs.YtmcfhmflncghiaaW.PrintMore
attribute [local go_sem] max2_int min2_int max_two min_two max_three min_three max_four min_four
set_option linter.unusedVariables false
set_option linter.unusedSimpArgs false

/-! ### spec_l13Way: function 55 -/
mutual
def spec_l13Way.l0 : Nat → List (S32) → List Int → Int → Int → Int → Int → Option (List Int × Bool)
  | 0, _, _, _, _, _, _ => none
  | k + 1, x0, x1, x2, x3, x4, x12 => if x12 < (x1.length : Int) then (if 0 ≤ x12 then (if (rd x1 x12) = x4 then (spec_l13Way.l0 k x0 x1 x2 x3 x4 (wrap64 (x12 + 1))) else (if 0 ≤ (rd x1 x12) then (if (rd x1 x12) < (x0.length : Int) then (if ((rd_T32 x0 (rd x1 x12)).f1) = x2 then (spec_l13Way.j1 k x0 x1 x2 x3 x4 x12 (wrap64 (-(wrap64 ((rd x1 x12) + 1)))) ((rd_T32 x0 (rd x1 x12)).f0) ((rd_T32 x0 (rd x1 x12)).f0) ((rd_T32 x0 (rd x1 x12)).f1) ((rd_T32 x0 (rd x1 x12)).f2) ((rd_T32 x0 (rd x1 x12)).f3)) else (spec_l13Way.j1 k x0 x1 x2 x3 x4 x12 (wrap64 ((rd x1 x12) + 1)) ((rd_T32 x0 (rd x1 x12)).f1) ((rd_T32 x0 (rd x1 x12)).f0) ((rd_T32 x0 (rd x1 x12)).f1) ((rd_T32 x0 (rd x1 x12)).f2) ((rd_T32 x0 (rd x1 x12)).f3))) else (none)) else (none))) else (none)) else (some ((([] : List Int)), false))
def spec_l13Way.j1 : Nat → List (S32) → List Int → Int → Int → Int → Int → Int → Int → Int → Int → Int → Int → Option (List Int × Bool)
  | 0, _, _, _, _, _, _, _, _, _, _, _, _ => none
  | k + 1, x0, x1, x2, x3, x4, x12, x14, x15, x382000, x382001, x382002, x382003 => if x382000 = x2 then (spec_l13Way.j2 k x0 x1 x2 x3 x4 x12 x14 x15 false) else (spec_l13Way.j2 k x0 x1 x2 x3 x4 x12 x14 x15 (x382001 != x2))
def spec_l13Way.j2 : Nat → List (S32) → List Int → Int → Int → Int → Int → Int → Int → Bool → Option (List Int × Bool)
  | 0, _, _, _, _, _, _, _, _, _ => none
  | k + 1, x0, x1, x2, x3, x4, x12, x14, x15, x65 => if x65 = true then (spec_l13Way.l0 k x0 x1 x2 x3 x4 (wrap64 (x12 + 1))) else (if 0 ≤ x12 then (if x12 < (x1.length : Int) then ((spec_l13Way.f k x0 x1 x15 x3 (rd x1 x12)).bind fun bt384 => (if bt384.2 = true then ((some (([x14] : List Int) : List Int)).bind fun y388 => (if y388.length + bt384.1.length < 17592186044416 then (some ((y388 ++ bt384.1), true)) else (none))) else (spec_l13Way.l0 k x0 x1 x2 x3 x4 (wrap64 (x12 + 1))))) else (none)) else (none))
def spec_l13Way.f : Nat → List (S32) → List Int → Int → Int → Int → Option (List Int × Bool)
  | 0, _, _, _, _, _ => none
  | k + 1, l0, l1, a2, a3, a4 => if a2 = a3 then (some ((([] : List Int)), true)) else (spec_l13Way.l0 k l0 l1 a2 a3 a4 0)
end
set_option maxHeartbeats 8000000 in
set_option maxRecDepth 100000 in
theorem spec_l13Way.calls (k : Nat) : ∀ (A0 : Option Addr) (c0 : Nat) (l0 : List (S32)) (A1 : Option Addr) (c1 : Nat) (l1 : List Int) (a2 : Int) (a3 : Int) (a4 : Int) (r1 : List Int) (r2 : Bool) (w : World) (hr0 : Kd.C k32 w A0 l0.length l0) (hc0 : l0.length ≤ c0) (hr1 : Kd.C (Kd.int .i64) w A1 l1.length l1) (hc1 : l1.length ≤ c1) (h : spec_l13Way.f k l0 l1 a2 a3 a4 = some (r1, r2)),
    Calls Try.prog 55 #[.slice A0 l0.length c0, .slice A1 l1.length c1, .int .i64 a2, .int .i64 a3, .int .i64 a4] w fun e w' => ∃ v0_ : Value, e = .returned (.tuple #[v0_, .bool r2]) ∧ Kd.R (Kd.int .i64) 3 w' w.heap.size (fun _ => True) v0_ r1 ∧ Below w.heap.size w w' := by
  induction k using Nat.strongRecOn with
  | _ k ih =>
  intro A0 c0 l0 A1 c1 l1 a2 a3 a4 r1 r2 w hr0 hc0 hr1 hc1 h
  cases k with
  | zero => exact absurd h (by simp [spec_l13Way.f])
  | succ k =>
  simp only [spec_l13Way.f] at h
  have hu32 := Try.underlying32
  have HR0 := Aside0.mk hr0
  have HC0 := Aside0.mk hc0
  clear hr0 hc0
  have HR1 := Aside0.mk hr1
  have HC1 := Aside0.mk hc1
  clear hr1 hc1
  have HB := Aside0.mk (Below.refl w.heap.size w)
  have H : (if a2 = a3 then (some ((([] : List Int)), true)) else (spec_l13Way.l0 k l0 l1 a2 a3 a4 0)) = some (r1, r2) := h
  clear h
  by_cases c6 : a2 = a3
  · rw [if_pos c6] at H
    have c6b0 : (a2 == a3) = true := beq_iff_eq.mpr c6
    have c6b1 : (a2 != a3) = false := bne_eq_false_iff_eq.mpr c6
    clear c6
    obtain ⟨y372, hy372⟩ : ∃ y_ : List Int, y_ = (([] : List Int)) := ⟨_, rfl⟩
    replace H : (some (y372, true)) = some (r1, r2) := by first | (rw [hy372]; with_reducible exact H) | (have H2_ := (Option.bind_some _ _).symm.trans H; rw [hy372]; with_reducible exact H2_) | (have H2_ := (Option.bind_some _ _).symm.trans H; with_reducible exact H2_) | with_reducible exact H | (rw [hy372]; exact H) | exact H
    have Ny372 := Aside0.mk hy372
    clear hy372
    simp only [Option.some.injEq, Prod.mk.injEq] at H
    obtain ⟨rfl, rfl⟩ := H
    go_enter Try.func55, Try.ntmps55
    go_wp2_with (first | ((with_reducible refine gate_dst (N := 21) rfl ?_); refine Kd.R_lit (Kd.int .i64) _ 3 ?hg (N := 21) ?hd (xs := ([] : List Int)) (inner := []) (ok := fun _ => True) (okp := fun _ => True) ?hr ?hp (fun _ hk => hk) trivial (Below.refl _ _) (Nat.le_refl _) (by simp) ?_; (case hd => rfl); (case hg => rfl); (case hr => exact qq16); (case hp => exact (Reps.none _ _)); intro v373 w7 ho8 hb hg_ hnew_; clear hg_ hnew_; (first | rw [← Ny372.out] at ho8 | (simp only [Int.reduceToNat] at ho8; rw [← Ny372.out] at ho8)); have n0_ := Aside0.mk (Kd.R_lower ho8 (below_size qq1)); have n1_ := Aside0.mk (below_step qq1 hb); clear HB; have HO374 := n0_; have HB := n1_; clear n0_ n1_; clear hb ho8))
    go_ret2
    exact ⟨_, qq11, qq2 HO374.out, qq1⟩
  · rw [if_neg c6] at H
    have c6b0 : (a2 == a3) = false := beq_eq_false_iff_ne.mpr c6
    have c6b1 : (a2 != a3) = true := bne_iff_ne.mpr c6
    have H' := Aside0.mk H
    clear H
    go_enter Try.func55, Try.ntmps55
    go_wp2
    go_loopg [12] k (fun kq v12 w' => ∃ (x12_1 : Int), v12 = .int .i64 x12_1 ∧ Aside0 (spec_l13Way.l0 kq l0 l1 a2 a3 a4 x12_1 = some (r1, r2)) ∧ Aside0 (kq ≤ k) ∧ Aside0 (Below w.heap.size w w'))
    case atStart => exact ⟨(0), qq13, H', ⟨Nat.le_refl _⟩, ⟨qq1⟩⟩
    case round =>
      clear H'
      try clear c1
      try clear p2
      try clear c5
      try clear c6
      try clear c6b0
      try clear c6b1
      obtain ⟨x12_1, rfl, HA, HK1, HB⟩ := hrel
      cases gk with
      | zero => exact absurd HA.out (by simp [spec_l13Way.l0])
      | succ k1 =>
        have H := HA.out
        clear HA
        simp only [spec_l13Way.l0] at H
        by_cases c9 : x12_1 < (l1.length : Int)
        · rw [if_pos c9] at H
          have c9b0 : decide (x12_1 < (l1.length : Int)) = true := decide_eq_true c9
          clear c9
          by_cases c10 : 0 ≤ x12_1
          · rw [if_pos c10] at H
            have c10b0 : decide (0 ≤ x12_1) = true := decide_eq_true c10
            clear c10
            by_cases c11 : (rd l1 x12_1) = a4
            · rw [if_pos c11] at H
              have c11b0 : ((rd l1 x12_1) == a4) = true := beq_iff_eq.mpr c11
              have c11b1 : ((rd l1 x12_1) != a4) = false := bne_eq_false_iff_eq.mpr c11
              clear c11
              have H' := Aside0.mk H
              clear H
              have p378 : 0 ≤ (x12_1 : Int) := of_decide_eq_true qq3
              have q378 : x12_1 < (l1.length : Int) := of_decide_eq_true qq3
              obtain ⟨ad378, e378, hx378_0⟩ := Kd.at_int HR1.out x12_1 p378 q378
              cases e378
              replace hx378_0 := (HB.out.cell (World.block_lt_of_cell? w _ hx378_0)).trans hx378_0
              replace p378 := eq_true p378
              replace q378 := eq_true q378
              go_wp2
              go_roundg k1
              case measure => have := HK1.out; omega
              case rel => exact ⟨(wrap64 (x12_1 + 1)), qq13, H', ⟨by have := HK1.out; omega⟩, ⟨qq1⟩⟩
            · rw [if_neg c11] at H
              have c11b0 : ((rd l1 x12_1) == a4) = false := beq_eq_false_iff_ne.mpr c11
              have c11b1 : ((rd l1 x12_1) != a4) = true := bne_iff_ne.mpr c11
              by_cases c12 : 0 ≤ (rd l1 x12_1)
              · rw [if_pos c12] at H
                have c12b0 : decide (0 ≤ (rd l1 x12_1)) = true := decide_eq_true c12
                clear c12
                by_cases c13 : (rd l1 x12_1) < (l0.length : Int)
                · rw [if_pos c13] at H
                  have c13b0 : decide ((rd l1 x12_1) < (l0.length : Int)) = true := decide_eq_true c13
                  clear c13
                  have HC14 := Aside0.mk H
                  clear H
                  have p378 : 0 ≤ (x12_1 : Int) := of_decide_eq_true qq3
                  have q378 : x12_1 < (l1.length : Int) := of_decide_eq_true qq3
                  obtain ⟨ad378, e378, hx378_0⟩ := Kd.at_int HR1.out x12_1 p378 q378
                  cases e378
                  replace hx378_0 := (HB.out.cell (World.block_lt_of_cell? w _ hx378_0)).trans hx378_0
                  replace p378 := eq_true p378
                  replace q378 := eq_true q378
                  have p379 : 0 ≤ (x12_1 : Int) := of_decide_eq_true qq3
                  have q379 : x12_1 < (l1.length : Int) := of_decide_eq_true qq3
                  obtain ⟨ad379, e379, hx379_0⟩ := Kd.at_int HR1.out x12_1 p379 q379
                  obtain rfl : ad378 = ad379 := (by injection e379)
                  replace hx379_0 := (HB.out.cell (World.block_lt_of_cell? w _ hx379_0)).trans hx379_0
                  replace p379 := eq_true p379
                  replace q379 := eq_true q379
                  have p380 : 0 ≤ ((rd l1 x12_1) : Int) := of_decide_eq_true qq3
                  have q380 : (rd l1 x12_1) < (l0.length : Int) := of_decide_eq_true qq3
                  obtain ⟨ad380, e380, hx380_0, hx380_1, hx380_2, hx380_3⟩ := at_T32 HR0.out (rd l1 x12_1) p380 q380
                  cases e380
                  replace hx380_0 := (HB.out.cell (World.block_lt_of_cell? w _ hx380_0)).trans hx380_0
                  replace hx380_1 := (HB.out.cell (World.block_lt_of_cell? w _ hx380_1)).trans hx380_1
                  replace hx380_2 := (HB.out.cell (World.block_lt_of_cell? w _ hx380_2)).trans hx380_2
                  replace hx380_3 := (HB.out.cell (World.block_lt_of_cell? w _ hx380_3)).trans hx380_3
                  replace p380 := eq_true p380
                  replace q380 := eq_true q380
                  go_upto_if 51 with (first | ((with_reducible refine gate_dst (N := 13) rfl ?_); refine box_event ?hg (N := 13) ?hd (cs := #[.int .i64 0, .int .i64 0, .int .i64 0, .int .i64 0]) (t := 32) ?hr ?_; (case hd => rfl); (case hg => rfl); (case hr => exact qq16); intro gb381 hg w15 hbox hb; have n0_ := Aside0.mk (below_step qq1 hb); have n1_ := Aside0.mk (hbox); have n2_ := Aside0.mk ((qq33 : w.heap.size ≤ gb381)); have n3_ := Aside0.mk ((qq33 : w.heap.size ≤ gb381)); clear HB; have HB := n0_; have BK381 := n1_; have GW381 := n2_; have GE381 := n3_; clear n0_ n1_ n2_ n3_; clear hb hbox hg; have hcz16_0 : w15.cell? ⟨gb381, 0, none⟩ = some (.int .i64 0) := (blk_cell BK381.out 0).trans rfl; have hcz16_1 : w15.cell? ⟨gb381, 1, none⟩ = some (.int .i64 0) := (blk_cell BK381.out 1).trans rfl; have hcz16_2 : w15.cell? ⟨gb381, 2, none⟩ = some (.int .i64 0) := (blk_cell BK381.out 2).trans rfl; have hcz16_3 : w15.cell? ⟨gb381, 3, none⟩ = some (.int .i64 0) := (blk_cell BK381.out 3).trans rfl; have hfz16_0 := blk_frozen BK381.out 0; have hfz16_1 := blk_frozen BK381.out 1; have hfz16_2 := blk_frozen BK381.out 2; have hfz16_3 := blk_frozen BK381.out 3; have p382 : 0 ≤ (x12_1 : Int) := of_decide_eq_true qq3; have q382 : x12_1 < (l1.length : Int) := of_decide_eq_true qq3; obtain ⟨ad382, e382, hx382_0⟩ := Kd.at_int HR1.out x12_1 p382 q382; obtain rfl : ad378 = ad382 := (by injection e382); have hn382_0 : ad378.block ≠ gb381 := Nat.ne_of_lt (Nat.lt_of_lt_of_le qq56 GW381.out); have hn382_1 : ad378.block ≠ gb381 := Nat.ne_of_lt (Nat.lt_of_lt_of_le qq56 GW381.out); have hn382_2 : ad378.block ≠ gb381 := Nat.ne_of_lt (Nat.lt_of_lt_of_le qq56 GW381.out); have hn382_3 : ad378.block ≠ gb381 := Nat.ne_of_lt (Nat.lt_of_lt_of_le qq56 GW381.out); replace hx382_0 := (HB.out.cell (World.block_lt_of_cell? w _ hx382_0)).trans hx382_0; replace hx382_0 := (cell_far (p := ⟨gb381, 0, none⟩) (by first | (rw [add_block]; exact hn382_0) | (show (Addr.add _ _).block ≠ _; rw [add_block]; exact hn382_0) | exact hn382_0) (.int .i64 ((rd_T32 l0 (rd l1 x12_1)).f0))).trans hx382_0; replace hx382_0 := (cell_far (p := ⟨gb381, 1, none⟩) (by first | (rw [add_block]; exact hn382_1) | (show (Addr.add _ _).block ≠ _; rw [add_block]; exact hn382_1) | exact hn382_1) (.int .i64 ((rd_T32 l0 (rd l1 x12_1)).f1))).trans hx382_0; replace hx382_0 := (cell_far (p := ⟨gb381, 2, none⟩) (by first | (rw [add_block]; exact hn382_2) | (show (Addr.add _ _).block ≠ _; rw [add_block]; exact hn382_2) | exact hn382_2) (.int .i64 ((rd_T32 l0 (rd l1 x12_1)).f2))).trans hx382_0; replace hx382_0 := (cell_far (p := ⟨gb381, 3, none⟩) (by first | (rw [add_block]; exact hn382_3) | (show (Addr.add _ _).block ≠ _; rw [add_block]; exact hn382_3) | exact hn382_3) (.int .i64 ((rd_T32 l0 (rd l1 x12_1)).f3))).trans hx382_0; clear hn382_0; clear hn382_1; clear hn382_2; clear hn382_3; replace p382 := eq_true p382; replace q382 := eq_true q382))
                  (try simp only [Act.put, List.setIfInBounds_toArray, List.set_cons_zero, List.set_cons_succ])
                  go_cut [14, 15] (fun v14 v15 wc => ∃ (kq : Nat) (x14_13 : Int) (x15_13 : Int), v14 = .int .i64 x14_13 ∧ v15 = .int .i64 x15_13 ∧ Aside0 (spec_l13Way.j1 kq l0 l1 a2 a3 a4 x12_1 x14_13 x15_13 ((rd_T32 l0 (rd l1 x12_1)).f0) ((rd_T32 l0 (rd l1 x12_1)).f1) ((rd_T32 l0 (rd l1 x12_1)).f2) ((rd_T32 l0 (rd l1 x12_1)).f3) = some (r1, r2)) ∧ Aside0 (kq ≤ k1) ∧ Aside0 (wc.heap[gb381]? = some (.cells #[.int .i64 ((rd_T32 l0 (rd l1 x12_1)).f0), .int .i64 ((rd_T32 l0 (rd l1 x12_1)).f1), .int .i64 ((rd_T32 l0 (rd l1 x12_1)).f2), .int .i64 ((rd_T32 l0 (rd l1 x12_1)).f3)] 32 (0, 0))) ∧ Aside0 (Below w.heap.size w wc))
                  case first =>
                    have H := HC14.out
                    clear HC14
                    by_cases c17 : ((rd_T32 l0 (rd l1 x12_1)).f1) = a2
                    · rw [if_pos c17] at H
                      have c17b0 : (((rd_T32 l0 (rd l1 x12_1)).f1) == a2) = true := beq_iff_eq.mpr c17
                      have c17b1 : (((rd_T32 l0 (rd l1 x12_1)).f1) != a2) = false := bne_eq_false_iff_eq.mpr c17
                      clear c17
                      (first | rw [c17b0] | (simp only [i64_w, i32_w]; rw [c17b0]) | skip)
                      have H' := Aside0.mk H
                      clear H
                      have hcz18_0 : w15.cell? ⟨gb381, 0, none⟩ = some (.int .i64 0) := (blk_cell BK381.out 0).trans rfl
                      have hcz18_1 : w15.cell? ⟨gb381, 1, none⟩ = some (.int .i64 0) := (blk_cell BK381.out 1).trans rfl
                      have hcz18_2 : w15.cell? ⟨gb381, 2, none⟩ = some (.int .i64 0) := (blk_cell BK381.out 2).trans rfl
                      have hcz18_3 : w15.cell? ⟨gb381, 3, none⟩ = some (.int .i64 0) := (blk_cell BK381.out 3).trans rfl
                      have hfz18_0 := blk_frozen BK381.out 0
                      have hfz18_1 := blk_frozen BK381.out 1
                      have hfz18_2 := blk_frozen BK381.out 2
                      have hfz18_3 := blk_frozen BK381.out 3
                      go_wp2
                      go_meet
                      case rel => exact ⟨_, (wrap64 (-(wrap64 ((rd l1 x12_1) + 1)))), ((rd_T32 l0 (rd l1 x12_1)).f0), qq13, qq13, H', ⟨by have := HK1.out; first | omega | exact Nat.le_refl _⟩, ⟨qq30⟩, ⟨qq4 HB.out GE381.out⟩⟩
                    · rw [if_neg c17] at H
                      have c17b0 : (((rd_T32 l0 (rd l1 x12_1)).f1) == a2) = false := beq_eq_false_iff_ne.mpr c17
                      have c17b1 : (((rd_T32 l0 (rd l1 x12_1)).f1) != a2) = true := bne_iff_ne.mpr c17
                      (first | rw [c17b0] | (simp only [i64_w, i32_w]; rw [c17b0]) | skip)
                      have H' := Aside0.mk H
                      clear H
                      go_wp2
                      go_meet
                      case rel => exact ⟨_, (wrap64 ((rd l1 x12_1) + 1)), ((rd_T32 l0 (rd l1 x12_1)).f1), qq13, qq13, H', ⟨by have := HK1.out; first | omega | exact Nat.le_refl _⟩, ⟨qq30⟩, ⟨qq4 HB.out GE381.out⟩⟩
                  case rest =>
                    clear HC14
                    try clear c1
                    try clear p2
                    try clear p3
                    try clear q3
                    try clear hx3
                    try clear c5
                    try clear c6
                    try clear c6b0
                    try clear c6b1
                    try clear p6
                    try clear c9
                    try clear c9b0
                    try clear c10
                    try clear c10b0
                    try clear c11
                    try clear c11b0
                    try clear c11b1
                    try clear c12
                    try clear c12b0
                    try clear c13
                    try clear c13b0
                    try clear c17
                    try clear c17b0
                    try clear c17b1
                    try clear hcz16_0
                    try clear hcz16_1
                    try clear hcz16_2
                    try clear hcz16_3
                    try clear hcz18_0
                    try clear hcz18_1
                    try clear hcz18_2
                    try clear hcz18_3
                    try clear hfz16_0
                    try clear hfz16_1
                    try clear hfz16_2
                    try clear hfz16_3
                    try clear hfz18_0
                    try clear hfz18_1
                    try clear hfz18_2
                    try clear hfz18_3
                    try clear hx378_0
                    try clear hx379_0
                    try clear hx380_0
                    try clear hx380_1
                    try clear hx380_2
                    try clear hx380_3
                    try clear hx382_0
                    try clear p2
                    try clear p378
                    try clear p379
                    try clear p380
                    try clear p382
                    try clear q378
                    try clear q379
                    try clear q380
                    try clear q382
                    obtain ⟨kq, x14_13, x15_13, rfl, rfl, HA, HJ13, BK381, HB⟩ := hcut
                    cases kq with
                    | zero => exact absurd HA.out (by simp [spec_l13Way.j1])
                    | succ kj13 =>
                      have H := HA.out
                      clear HA
                      simp only [spec_l13Way.j1] at H
                      have HC19 := Aside0.mk H
                      clear H
                      go_upto_region 13 with (fail)
                      go_cut [65] (fun v65 wc => ∃ (kq : Nat) (x65_18 : Bool), v65 = .bool x65_18 ∧ Aside0 (spec_l13Way.j2 kq l0 l1 a2 a3 a4 x12_1 x14_13 x15_13 x65_18 = some (r1, r2)) ∧ Aside0 (kq ≤ kj13) ∧ Aside0 (wc.heap[gb381]? = some (.cells #[.int .i64 ((rd_T32 l0 (rd l1 x12_1)).f0), .int .i64 ((rd_T32 l0 (rd l1 x12_1)).f1), .int .i64 ((rd_T32 l0 (rd l1 x12_1)).f2), .int .i64 ((rd_T32 l0 (rd l1 x12_1)).f3)] 32 (0, 0))) ∧ Aside0 (Below w.heap.size w wc))
                      case first =>
                        have H := HC19.out
                        clear HC19
                        by_cases c20 : ((rd_T32 l0 (rd l1 x12_1)).f0) = a2
                        · rw [if_pos c20] at H
                          have c20b0 : (((rd_T32 l0 (rd l1 x12_1)).f0) == a2) = true := beq_iff_eq.mpr c20
                          have c20b1 : (((rd_T32 l0 (rd l1 x12_1)).f0) != a2) = false := bne_eq_false_iff_eq.mpr c20
                          clear c20
                          (first | rw [c20b0] | (simp only [i64_w, i32_w]; rw [c20b0]) | skip)
                          have H' := Aside0.mk H
                          clear H
                          have hcz21_0 : wc.cell? ⟨gb381, 0, none⟩ = some (.int .i64 ((rd_T32 l0 (rd l1 x12_1)).f0)) := (blk_cell BK381.out 0).trans rfl
                          have hcz21_1 : wc.cell? ⟨gb381, 1, none⟩ = some (.int .i64 ((rd_T32 l0 (rd l1 x12_1)).f1)) := (blk_cell BK381.out 1).trans rfl
                          have hcz21_2 : wc.cell? ⟨gb381, 2, none⟩ = some (.int .i64 ((rd_T32 l0 (rd l1 x12_1)).f2)) := (blk_cell BK381.out 2).trans rfl
                          have hcz21_3 : wc.cell? ⟨gb381, 3, none⟩ = some (.int .i64 ((rd_T32 l0 (rd l1 x12_1)).f3)) := (blk_cell BK381.out 3).trans rfl
                          have hfz21_0 := blk_frozen BK381.out 0
                          have hfz21_1 := blk_frozen BK381.out 1
                          have hfz21_2 := blk_frozen BK381.out 2
                          have hfz21_3 := blk_frozen BK381.out 3
                          go_wp2
                          go_meet
                          case rel => exact ⟨_, (false), qq13, H', ⟨qq52 HK1.out HJ13.out⟩, ⟨qq23 BK381.out⟩, ⟨qq4 HB.out GE381.out⟩⟩
                        · rw [if_neg c20] at H
                          have c20b0 : (((rd_T32 l0 (rd l1 x12_1)).f0) == a2) = false := beq_eq_false_iff_ne.mpr c20
                          have c20b1 : (((rd_T32 l0 (rd l1 x12_1)).f0) != a2) = true := bne_iff_ne.mpr c20
                          (first | rw [c20b0] | (simp only [i64_w, i32_w]; rw [c20b0]) | skip)
                          have H' := Aside0.mk H
                          clear H
                          have hcz22_0 : wc.cell? ⟨gb381, 0, none⟩ = some (.int .i64 ((rd_T32 l0 (rd l1 x12_1)).f0)) := (blk_cell BK381.out 0).trans rfl
                          have hcz22_1 : wc.cell? ⟨gb381, 1, none⟩ = some (.int .i64 ((rd_T32 l0 (rd l1 x12_1)).f1)) := (blk_cell BK381.out 1).trans rfl
                          have hcz22_2 : wc.cell? ⟨gb381, 2, none⟩ = some (.int .i64 ((rd_T32 l0 (rd l1 x12_1)).f2)) := (blk_cell BK381.out 2).trans rfl
                          have hcz22_3 : wc.cell? ⟨gb381, 3, none⟩ = some (.int .i64 ((rd_T32 l0 (rd l1 x12_1)).f3)) := (blk_cell BK381.out 3).trans rfl
                          have hfz22_0 := blk_frozen BK381.out 0
                          have hfz22_1 := blk_frozen BK381.out 1
                          have hfz22_2 := blk_frozen BK381.out 2
                          have hfz22_3 := blk_frozen BK381.out 3
                          go_wp2
                          go_meet
                          case rel => exact ⟨_, ((((rd_T32 l0 (rd l1 x12_1)).f1) != a2)), qq13, H', ⟨qq52 HK1.out HJ13.out⟩, ⟨qq23 BK381.out⟩, ⟨qq4 HB.out GE381.out⟩⟩
                      case rest =>
                        clear HC19
                        try clear c1
                        try clear c2
                        try clear p2
                        try clear p3
                        try clear q3
                        try clear hx3
                        try clear c5
                        try clear c6
                        try clear c6b0
                        try clear c6b1
                        try clear p6
                        try clear c9
                        try clear c9b0
                        try clear c10
                        try clear c10b0
                        try clear c11
                        try clear c11b0
                        try clear c11b1
                        try clear c12
                        try clear c12b0
                        try clear c13
                        try clear c13b0
                        try clear c17
                        try clear c17b0
                        try clear c17b1
                        try clear c20
                        try clear c20b0
                        try clear c20b1
                        try clear hcz16_0
                        try clear hcz16_1
                        try clear hcz16_2
                        try clear hcz16_3
                        try clear hcz18_0
                        try clear hcz18_1
                        try clear hcz18_2
                        try clear hcz18_3
                        try clear hcz21_0
                        try clear hcz21_1
                        try clear hcz21_2
                        try clear hcz21_3
                        try clear hcz22_0
                        try clear hcz22_1
                        try clear hcz22_2
                        try clear hcz22_3
                        try clear hfz16_0
                        try clear hfz16_1
                        try clear hfz16_2
                        try clear hfz16_3
                        try clear hfz18_0
                        try clear hfz18_1
                        try clear hfz18_2
                        try clear hfz18_3
                        try clear hfz21_0
                        try clear hfz21_1
                        try clear hfz21_2
                        try clear hfz21_3
                        try clear hfz22_0
                        try clear hfz22_1
                        try clear hfz22_2
                        try clear hfz22_3
                        try clear hx378_0
                        try clear hx379_0
                        try clear hx380_0
                        try clear hx380_1
                        try clear hx380_2
                        try clear hx380_3
                        try clear hx382_0
                        try clear p2
                        try clear p3
                        try clear p378
                        try clear p379
                        try clear p380
                        try clear p382
                        try clear p6
                        try clear q3
                        try clear q378
                        try clear q379
                        try clear q380
                        try clear q382
                        obtain ⟨kq, x65_18, rfl, HA, HJ18, BK381, HB⟩ := hcut
                        cases kq with
                        | zero => exact absurd HA.out (by simp [spec_l13Way.j2])
                        | succ kj18 =>
                          have H := HA.out
                          clear HA
                          simp only [spec_l13Way.j2] at H
                          by_cases c23 : x65_18 = true
                          · subst c23
                            have H1 : (spec_l13Way.l0 kj18 l0 l1 a2 a3 a4 (wrap64 (x12_1 + 1))) = some (r1, r2) := by rw [if_pos rfl] at H; exact H
                            clear H
                            have H := H1
                            clear H1
                            have H' := Aside0.mk H
                            clear H
                            go_wp2
                            go_roundg kj18
                            case measure => have := HK1.out; have := HJ13.out; have := HJ18.out; omega
                            case rel => exact ⟨(wrap64 (x12_1 + 1)), qq13, H', ⟨qq54 HK1.out HJ13.out HJ18.out⟩, ⟨qq4 HB.out GE381.out⟩⟩
                          · replace c23 := Bool.eq_false_iff.mpr c23
                            subst c23
                            have H1 : (if 0 ≤ x12_1 then (if x12_1 < (l1.length : Int) then ((spec_l13Way.f kj18 l0 l1 x15_13 a3 (rd l1 x12_1)).bind fun bt384 => (if bt384.2 = true then ((some (([x14_13] : List Int) : List Int)).bind fun y388 => (if y388.length + bt384.1.length < 17592186044416 then (some ((y388 ++ bt384.1), true)) else (none))) else (spec_l13Way.l0 kj18 l0 l1 a2 a3 a4 (wrap64 (x12_1 + 1))))) else (none)) else (none)) = some (r1, r2) := by rw [if_neg (show ¬ (false = true) by decide)] at H; exact H
                            clear H
                            have H := H1
                            clear H1
                            by_cases c24 : 0 ≤ x12_1
                            · rw [if_pos c24] at H
                              have c24b0 : decide (0 ≤ x12_1) = true := decide_eq_true c24
                              clear c24
                              by_cases c25 : x12_1 < (l1.length : Int)
                              · rw [if_pos c25] at H
                                have c25b0 : decide (x12_1 < (l1.length : Int)) = true := decide_eq_true c25
                                clear c25
                                replace H := Option.bind_eq_some_iff.mp H
                                obtain ⟨⟨t384, t385⟩, A260, H⟩ := H
                                replace H : (if t385 = true then ((some (([x14_13] : List Int) : List Int)).bind fun y388 => (if y388.length + t384.length < 17592186044416 then (some ((y388 ++ t384), true)) else (none))) else (spec_l13Way.l0 kj18 l0 l1 a2 a3 a4 (wrap64 (x12_1 + 1)))) = some (r1, r2) := H
                                have A26 := Aside0.mk A260
                                clear A260
                                by_cases c27 : t385 = true
                                · subst c27
                                  have H1 : ((some (([x14_13] : List Int) : List Int)).bind fun y388 => (if y388.length + t384.length < 17592186044416 then (some ((y388 ++ t384), true)) else (none))) = some (r1, r2) := by rw [if_pos rfl] at H; exact H
                                  clear H
                                  have H := H1
                                  clear H1
                                  obtain ⟨y388, hy388⟩ : ∃ y_ : List Int, y_ = (([x14_13] : List Int)) := ⟨_, rfl⟩
                                  replace H : (if y388.length + t384.length < 17592186044416 then (some ((y388 ++ t384), true)) else (none)) = some (r1, r2) := by first | (rw [hy388]; with_reducible exact H) | (have H2_ := (Option.bind_some _ _).symm.trans H; rw [hy388]; with_reducible exact H2_) | (have H2_ := (Option.bind_some _ _).symm.trans H; with_reducible exact H2_) | with_reducible exact H | (rw [hy388]; exact H) | exact H
                                  have Ny388 := Aside0.mk hy388
                                  clear hy388
                                  by_cases c28 : y388.length + t384.length < 17592186044416
                                  · rw [if_pos c28] at H
                                    have LMc28 := Aside0.mk c28
                                    clear c28
                                    obtain ⟨y391, hy391⟩ : ∃ y_ : List Int, y_ = (y388 ++ t384) := ⟨_, rfl⟩
                                    replace H : (some (y391, true)) = some (r1, r2) := by first | (rw [hy391]; with_reducible exact H) | (have H2_ := (Option.bind_some _ _).symm.trans H; rw [hy391]; with_reducible exact H2_) | (have H2_ := (Option.bind_some _ _).symm.trans H; with_reducible exact H2_) | with_reducible exact H | (rw [hy391]; exact H) | exact H
                                    have Ny391 := Aside0.mk hy391
                                    clear hy391
                                    simp only [Option.some.injEq, Prod.mk.injEq] at H
                                    obtain ⟨rfl, rfl⟩ := H
                                    have p383 : 0 ≤ (x12_1 : Int) := of_decide_eq_true qq3
                                    have q383 : x12_1 < (l1.length : Int) := of_decide_eq_true qq3
                                    obtain ⟨ad383, e383, hx383_0⟩ := Kd.at_int HR1.out x12_1 p383 q383
                                    obtain rfl : ad378 = ad383 := (by injection e383)
                                    replace hx383_0 := (HB.out.cell (World.block_lt_of_cell? w _ hx383_0)).trans hx383_0
                                    replace p383 := eq_true p383
                                    replace q383 := eq_true q383
                                    go_wp2_with (first | ((with_reducible refine gate_callee (f := 55) rfl ?_); refine goesL_ (some 75) rfl rfl Try.func55 (by kernel_rfl) rfl #[.slice (some ad380) l0.length c0, .slice (some ad378) l1.length c1, .int .i64 x15_13, .int .i64 a3, .int .i64 (rd l1 x12_1)] rfl qq5 ?_; (with_reducible refine (ih kj18 (qq54 HK1.out HJ13.out HJ18.out) _ _ l0 _ _ l1 x15_13 a3 (rd l1 x12_1) t384 true _ ?side1 ?side2 ?side3 ?side4 A26.out).mono ?_); (case side1 => exact qq10 HR0.out HB.out); (case side2 => exact HC0.out); (case side3 => exact qq35); (case side4 => exact HC1.out); rintro e w29 ⟨v386, rfl, ho0, hb⟩; refine ⟨_, rfl, ?_⟩; have n0_ := Aside0.mk (Kd.R_lower ho0 (below_size (qq4 HB.out GE381.out))); have n1_ := Aside0.mk (bbl_ BK381.out hb); have n2_ := Aside0.mk (below_step (qq4 HB.out GE381.out) hb); clear BK381; clear HB; have HO387 := n0_; have BK381 := n1_; have HB := n2_; clear n0_ n1_ n2_; (try clear hb); (try clear hb2); (try clear hk); (try clear hi); (try clear ho0)) | ((with_reducible refine gate_dst (N := 80) rfl ?_); refine Kd.R_lit (Kd.int .i64) _ 3 ?hg (N := 80) ?hd (xs := ([x14_13] : List Int)) (inner := [.int .i64 x14_13]) (ok := fun _ => True) (okp := fun _ => True) ?hr ?hp (fun _ hk => hk) trivial (Below.refl _ _) (Nat.le_refl _) (by simp) ?_; (case hd => rfl); (case hg => rfl); (case hr => exact qq16); (case hp => exact (Reps.one (show Kd.M (Kd.int .i64) _ _ _ x14_13 [.int .i64 x14_13] from rfl) (Reps.none _ _))); intro v389 w30 ho31 hb hg_ hnew_; clear hg_ hnew_; (first | rw [← Ny388.out] at ho31 | (simp only [Int.reduceToNat] at ho31; rw [← Ny388.out] at ho31)); have n0_ := Aside0.mk (Kd.R_elder' (qq2 HO387.out) (Kd.R_base ho31) hb); have n1_ := Aside0.mk (Kd.R_lower (Kd.R_new' ho31 (Kd.R_lt (qq2 HO387.out))) (below_size (qq4 HB.out GE381.out))); have n2_ := Aside0.mk (bbl_ BK381.out hb); have n3_ := Aside0.mk (below_step (qq4 HB.out GE381.out) hb); clear HO387; clear BK381; clear HB; have HO387 := n0_; have HO390 := n1_; have BK381 := n2_; have HB := n3_; clear n0_ n1_ n2_ n3_; clear hb ho31; obtain ⟨Ao33, co33, eo33⟩ := Kd.R_slice HO387.out; subst eo33) | ((with_reducible refine gate_builtin (b := .append) (xs := #[.tmp 80, .tmp 81]) rfl ?_); at_builtin; refine Kd.R_append_rows (Kd.int .i64) (w0 := w) w.heap.size rfl (.tmp 80) (.tmp 81) 27 3 (.int .i64 0) 8 rfl Try.underlying27 info3 rfl (by decide) (by omega) v389 y388 t384 _ _ _ (fun k_ => some k_ ≠ (.slice Ao33 t384.length co33 : Value).ownBlock) (fun _ => False) rfl rfl ?aO ?aR (fun _ _ h => h) (fun _ h => h.elim) ?aF ?aB ?aS ?aL ?_; (case aR => exact qq12 HO387.out); (case aB => exact (qq4 HB.out GE381.out)); (case aF => exact qq57 HO387.out); (case aO => exact (qq21 HO390.out)); (case aS => exact (below_size (qq4 HB.out GE381.out))); (case aL => have := LMc28.out; omega); intro v392 w32 ho hb hg hat; rw [← Ny391.out] at ho; have n0_ := Aside0.mk (blk_grown (g := gb381) (o := .cells #[.int .i64 ((rd_T32 l0 (rd l1 x12_1)).f0), .int .i64 ((rd_T32 l0 (rd l1 x12_1)).f1), .int .i64 ((rd_T32 l0 (rd l1 x12_1)).f2), .int .i64 ((rd_T32 l0 (rd l1 x12_1)).f3)] 32 (0, 0)) (qq23 BK381.out) hg (Kd.R_ne HO390.out BK381.out (by decide))); have n1_ := Aside0.mk (Kd.R_after (ok := (fun _ => True)) (qq2 HO387.out) hg hat); have n2_ := Aside0.mk (hb); have n3_ := Aside0.mk (ho); clear BK381; clear HO387; clear HB; clear HO390; have BK381 := n0_; have HO387 := n1_; have HB := n2_; have HO393 := n3_; clear n0_ n1_ n2_ n3_; clear ho hb hg hat))
                                    go_ret2
                                    exact ⟨_, qq11, qq17 HO393.out, qq4 HB.out GE381.out⟩
                                  · rw [if_neg c28] at H
                                    exact absurd H (by simp)
                                · replace c27 := Bool.eq_false_iff.mpr c27
                                  subst c27
                                  have H1 : (spec_l13Way.l0 kj18 l0 l1 a2 a3 a4 (wrap64 (x12_1 + 1))) = some (r1, r2) := by rw [if_neg (show ¬ (false = true) by decide)] at H; exact H
                                  clear H
                                  have H := H1
                                  clear H1
                                  have H' := Aside0.mk H
                                  clear H
                                  have p383 : 0 ≤ (x12_1 : Int) := of_decide_eq_true qq3
                                  have q383 : x12_1 < (l1.length : Int) := of_decide_eq_true qq3
                                  obtain ⟨ad383, e383, hx383_0⟩ := Kd.at_int HR1.out x12_1 p383 q383
                                  obtain rfl : ad378 = ad383 := (by injection e383)
                                  replace hx383_0 := (HB.out.cell (World.block_lt_of_cell? w _ hx383_0)).trans hx383_0
                                  replace p383 := eq_true p383
                                  replace q383 := eq_true q383
                                  go_wp2_with (first | ((with_reducible refine gate_callee (f := 55) rfl ?_); refine goesL_ (some 75) rfl rfl Try.func55 (by kernel_rfl) rfl #[.slice (some ad380) l0.length c0, .slice (some ad378) l1.length c1, .int .i64 x15_13, .int .i64 a3, .int .i64 (rd l1 x12_1)] rfl qq5 ?_; (with_reducible refine (ih kj18 (qq54 HK1.out HJ13.out HJ18.out) _ _ l0 _ _ l1 x15_13 a3 (rd l1 x12_1) t384 false _ ?side1 ?side2 ?side3 ?side4 A26.out).mono ?_); (case side1 => exact qq10 HR0.out HB.out); (case side2 => exact HC0.out); (case side3 => exact qq35); (case side4 => exact HC1.out); rintro e w34 ⟨v386, rfl, ho0, hb⟩; refine ⟨_, rfl, ?_⟩; have n0_ := Aside0.mk (Kd.R_lower ho0 (below_size (qq4 HB.out GE381.out))); have n1_ := Aside0.mk (bbl_ BK381.out hb); have n2_ := Aside0.mk (below_step (qq4 HB.out GE381.out) hb); clear BK381; clear HB; have HO387 := n0_; have BK381 := n1_; have HB := n2_; clear n0_ n1_ n2_; (try clear hb); (try clear hb2); (try clear hk); (try clear hi); (try clear ho0)))
                                  go_roundg kj18
                                  case measure => have := HK1.out; have := HJ13.out; have := HJ18.out; omega
                                  case rel => exact ⟨(wrap64 (x12_1 + 1)), qq13, H', ⟨qq54 HK1.out HJ13.out HJ18.out⟩, ⟨qq4 HB.out GE381.out⟩⟩
                              · rw [if_neg c25] at H
                                exact absurd H (by simp)
                            · rw [if_neg c24] at H
                              exact absurd H (by simp)
                · rw [if_neg c13] at H
                  exact absurd H (by simp)
              · rw [if_neg c12] at H
                exact absurd H (by simp)
          · rw [if_neg c10] at H
            exact absurd H (by simp)
        · rw [if_neg c9] at H
          have c9b0 : decide (x12_1 < (l1.length : Int)) = false := decide_eq_false c9
          clear c9
          obtain ⟨y375, hy375⟩ : ∃ y_ : List Int, y_ = (([] : List Int)) := ⟨_, rfl⟩
          replace H : (some (y375, false)) = some (r1, r2) := by first | (rw [hy375]; with_reducible exact H) | (have H2_ := (Option.bind_some _ _).symm.trans H; rw [hy375]; with_reducible exact H2_) | (have H2_ := (Option.bind_some _ _).symm.trans H; with_reducible exact H2_) | with_reducible exact H | (rw [hy375]; exact H) | exact H
          have Ny375 := Aside0.mk hy375
          clear hy375
          simp only [Option.some.injEq, Prod.mk.injEq] at H
          obtain ⟨rfl, rfl⟩ := H
          go_wp2_with (first | ((with_reducible refine gate_dst (N := 83) rfl ?_); refine Kd.R_lit (Kd.int .i64) _ 3 ?hg (N := 83) ?hd (xs := ([] : List Int)) (inner := []) (ok := fun _ => True) (okp := fun _ => True) ?hr ?hp (fun _ hk => hk) trivial (Below.refl _ _) (Nat.le_refl _) (by simp) ?_; (case hd => rfl); (case hg => rfl); (case hr => exact qq16); (case hp => exact (Reps.none _ _)); intro v376 w35 ho36 hb hg_ hnew_; clear hg_ hnew_; (first | rw [← Ny375.out] at ho36 | (simp only [Int.reduceToNat] at ho36; rw [← Ny375.out] at ho36)); have n0_ := Aside0.mk (Kd.R_lower ho36 (below_size qq1)); have n1_ := Aside0.mk (below_step qq1 hb); clear HB; have HO377 := n0_; have HB := n1_; clear n0_ n1_; clear hb ho36))
          go_ret2
          exact ⟨_, qq11, qq2 HO377.out, qq1⟩

end Go.Proofs.Ytmcfhmflncghiaa.Q
namespace Go.Proofs.Ytmcfhmflncghiaa.Q
open Go.RowKit Go.Proofs.YtmcfhmflncghiaaW.PrintWords Go.Proofs.YtmcfhmflncghiaaW.PrintLast Go.Proofs.YtmcfhmflncghiaaW.PrintMore
attribute [local go_sem] max2_int min2_int max_two min_two max_three min_three max_four min_four
set_option linter.unusedVariables false
set_option linter.unusedSimpArgs false

/-! ### spec_LoopOf: function 33 -/
def spec_LoopOf.f (k : Nat) (a0 : Int) (l1 : List (S32)) (a2 : Int) : Option (List Int × Bool) := (spec_TreeFirst.f k a0 l1).bind fun bt394 => (if bt394.2 = true then ((spec_l6In.f a2 0 (wrap64 ((l1.length : Int) - 1))).bind fun t398 => (if t398 = true then ((spec_l13Has.f k bt394.1 a2).bind fun t399 => (if t399 = true then (some ((([] : List Int)), false)) else (if 0 ≤ a2 then (if a2 < (l1.length : Int) then ((spec_l13Way.f k l1 bt394.1 ((rd_T32 l1 a2).f1) ((rd_T32 l1 a2).f0) (-1)).bind fun bt405 => ((some (([wrap64 (a2 + 1)] : List Int) : List Int)).bind fun y409 => (if y409.length + bt405.1.length < 17592186044416 then (some ((y409 ++ bt405.1), true)) else (none)))) else (none)) else (none)))) else (some ((([] : List Int)), false)))) else (some ((([] : List Int)), false)))
def spec_LoopOf.T4 : Bool × List (List Nat × List Nat) := (true, [([], []), ([], []), ([], []), ([], []), ([2, 3], [2, 3]), ([4], [4]), ([5], [5]), ([], []), ([], []), ([7, 8], [7, 8]), ([9], [9]), ([10], [10]), ([0, 1, 6, 11], [0, 1, 6, 11]), ([12], [12]), ([13], [13]), ([13], [13]), ([14, 12, 0, 1, 2, 3, 4, 5, 6, 7, 8, 9, 10, 11, 12, 13, 14], [14]), ([15, 16, 0, 1, 2, 3, 4, 5, 6, 7, 8, 9, 10, 11, 12, 13, 14, 15, 16], [15])])
def spec_LoopOf.B4 : List Nat := [0, 0, 0, 0, 12, 28, 60, 0, 0, 384, 896, 1920, 4095, 8191, 16383, 16383, 32767, 131071]
theorem spec_LoopOf.tab4 : rtab .any (opsOf Try.f33 4) = spec_LoopOf.T4 := by kernel_rfl
theorem spec_LoopOf.bits4 : waitsOk spec_LoopOf.T4.2 spec_LoopOf.B4 = true := by kernel_rfl
set_option maxHeartbeats 8000000 in
set_option maxRecDepth 100000 in
theorem spec_LoopOf.calls (k : Nat) (a0 : Int) (A1 : Option Addr) (c1 : Nat) (l1 : List (S32)) (a2 : Int) (r1 : List Int) (r2 : Bool) (w : World) (hr1 : Kd.C k32 w A1 l1.length l1) (hc1 : l1.length ≤ c1) (h : spec_LoopOf.f k a0 l1 a2 = some (r1, r2)) :
    Calls Try.prog 33 #[.int .i64 a0, .slice A1 l1.length c1, .int .i64 a2] w fun e w' => ∃ v0_ : Value, e = .returned (.tuple #[v0_, .bool r2]) ∧ Kd.R (Kd.int .i64) 3 w' w.heap.size (fun _ => True) v0_ r1 ∧ Below w.heap.size w w' := by
  have HR1 := Aside0.mk hr1
  have HC1 := Aside0.mk hc1
  clear hr1 hc1
  have HB := Aside0.mk (Below.refl w.heap.size w)
  have H : ((spec_TreeFirst.f k a0 l1).bind fun bt394 => (if bt394.2 = true then ((spec_l6In.f a2 0 (wrap64 ((l1.length : Int) - 1))).bind fun t398 => (if t398 = true then ((spec_l13Has.f k bt394.1 a2).bind fun t399 => (if t399 = true then (some ((([] : List Int)), false)) else (if 0 ≤ a2 then (if a2 < (l1.length : Int) then ((spec_l13Way.f k l1 bt394.1 ((rd_T32 l1 a2).f1) ((rd_T32 l1 a2).f0) (-1)).bind fun bt405 => ((some (([wrap64 (a2 + 1)] : List Int) : List Int)).bind fun y409 => (if y409.length + bt405.1.length < 17592186044416 then (some ((y409 ++ bt405.1), true)) else (none)))) else (none)) else (none)))) else (some ((([] : List Int)), false)))) else (some ((([] : List Int)), false)))) = some (r1, r2) := h
  clear h
  replace H := Option.bind_eq_some_iff.mp H
  obtain ⟨⟨t394, t395⟩, A40, H⟩ := H
  replace H : (if t395 = true then ((spec_l6In.f a2 0 (wrap64 ((l1.length : Int) - 1))).bind fun t398 => (if t398 = true then ((spec_l13Has.f k t394 a2).bind fun t399 => (if t399 = true then (some ((([] : List Int)), false)) else (if 0 ≤ a2 then (if a2 < (l1.length : Int) then ((spec_l13Way.f k l1 t394 ((rd_T32 l1 a2).f1) ((rd_T32 l1 a2).f0) (-1)).bind fun bt405 => ((some (([wrap64 (a2 + 1)] : List Int) : List Int)).bind fun y409 => (if y409.length + bt405.1.length < 17592186044416 then (some ((y409 ++ bt405.1), true)) else (none)))) else (none)) else (none)))) else (some ((([] : List Int)), false)))) else (some ((([] : List Int)), false))) = some (r1, r2) := H
  have A4 := Aside0.mk A40
  clear A40
  by_cases c5 : t395 = true
  · subst c5
    have H1 : ((spec_l6In.f a2 0 (wrap64 ((l1.length : Int) - 1))).bind fun t398 => (if t398 = true then ((spec_l13Has.f k t394 a2).bind fun t399 => (if t399 = true then (some ((([] : List Int)), false)) else (if 0 ≤ a2 then (if a2 < (l1.length : Int) then ((spec_l13Way.f k l1 t394 ((rd_T32 l1 a2).f1) ((rd_T32 l1 a2).f0) (-1)).bind fun bt405 => ((some (([wrap64 (a2 + 1)] : List Int) : List Int)).bind fun y409 => (if y409.length + bt405.1.length < 17592186044416 then (some ((y409 ++ bt405.1), true)) else (none)))) else (none)) else (none)))) else (some ((([] : List Int)), false)))) = some (r1, r2) := by rw [if_pos rfl] at H; exact H
    clear H
    have H := H1
    clear H1
    replace H := Option.bind_eq_some_iff.mp H
    obtain ⟨t398, A60, H⟩ := H
    replace H : (if t398 = true then ((spec_l13Has.f k t394 a2).bind fun t399 => (if t399 = true then (some ((([] : List Int)), false)) else (if 0 ≤ a2 then (if a2 < (l1.length : Int) then ((spec_l13Way.f k l1 t394 ((rd_T32 l1 a2).f1) ((rd_T32 l1 a2).f0) (-1)).bind fun bt405 => ((some (([wrap64 (a2 + 1)] : List Int) : List Int)).bind fun y409 => (if y409.length + bt405.1.length < 17592186044416 then (some ((y409 ++ bt405.1), true)) else (none)))) else (none)) else (none)))) else (some ((([] : List Int)), false))) = some (r1, r2) := H
    have A6 := Aside0.mk A60
    clear A60
    by_cases c7 : t398 = true
    · subst c7
      have H1 : ((spec_l13Has.f k t394 a2).bind fun t399 => (if t399 = true then (some ((([] : List Int)), false)) else (if 0 ≤ a2 then (if a2 < (l1.length : Int) then ((spec_l13Way.f k l1 t394 ((rd_T32 l1 a2).f1) ((rd_T32 l1 a2).f0) (-1)).bind fun bt405 => ((some (([wrap64 (a2 + 1)] : List Int) : List Int)).bind fun y409 => (if y409.length + bt405.1.length < 17592186044416 then (some ((y409 ++ bt405.1), true)) else (none)))) else (none)) else (none)))) = some (r1, r2) := by rw [if_pos rfl] at H; exact H
      clear H
      have H := H1
      clear H1
      replace H := Option.bind_eq_some_iff.mp H
      obtain ⟨t399, A80, H⟩ := H
      replace H : (if t399 = true then (some ((([] : List Int)), false)) else (if 0 ≤ a2 then (if a2 < (l1.length : Int) then ((spec_l13Way.f k l1 t394 ((rd_T32 l1 a2).f1) ((rd_T32 l1 a2).f0) (-1)).bind fun bt405 => ((some (([wrap64 (a2 + 1)] : List Int) : List Int)).bind fun y409 => (if y409.length + bt405.1.length < 17592186044416 then (some ((y409 ++ bt405.1), true)) else (none)))) else (none)) else (none))) = some (r1, r2) := H
      have A8 := Aside0.mk A80
      clear A80
      by_cases c9 : t399 = true
      · subst c9
        have H1 : (some ((([] : List Int)), false)) = some (r1, r2) := by rw [if_pos rfl] at H; exact H
        clear H
        have H := H1
        clear H1
        obtain ⟨y400, hy400⟩ : ∃ y_ : List Int, y_ = (([] : List Int)) := ⟨_, rfl⟩
        replace H : (some (y400, false)) = some (r1, r2) := by first | (rw [hy400]; with_reducible exact H) | (have H2_ := (Option.bind_some _ _).symm.trans H; rw [hy400]; with_reducible exact H2_) | (have H2_ := (Option.bind_some _ _).symm.trans H; with_reducible exact H2_) | with_reducible exact H | (rw [hy400]; exact H) | exact H
        have Ny400 := Aside0.mk hy400
        clear hy400
        simp only [Option.some.injEq, Prod.mk.injEq] at H
        obtain ⟨rfl, rfl⟩ := H
        go_enter Try.func33, Try.ntmps33
        go_wp2_with (first | ((with_reducible refine gate_callee (f := 53) rfl ?_); refine goesL_ (some 15) rfl rfl Try.func53 (by kernel_rfl) rfl #[.int .i64 a0, .slice A1 l1.length c1] rfl qq5 ?_; (with_reducible refine (spec_TreeFirst.calls k a0 _ _ l1 t394 true _ ?side1 ?side2 A4.out).mono ?_); (case side1 => exact qq15 HR1.out); (case side2 => exact HC1.out); rintro e w10 ⟨v396, rfl, ho0, hb⟩; refine ⟨_, rfl, ?_⟩; have n0_ := Aside0.mk (Kd.R_lower ho0 (below_size qq1)); have n1_ := Aside0.mk (below_step qq1 hb); clear HB; have HO397 := n0_; have HB := n1_; clear n0_ n1_; (try clear hb); (try clear hb2); (try clear hk); (try clear hi); (try clear ho0)) | (go_at_call 40; (with_reducible refine (spec_l6In.calls a2 0 (wrap64 ((l1.length : Int) - 1)) true _ A6.out).mono ?_); rintro e w' ⟨rfl, ⟨nd, rfl⟩⟩; obtain ⟨Ao11, co11, eo11⟩ := Kd.R_slice HO397.out; subst eo11) | (go_at_call 54; (with_reducible refine (spec_l13Has.calls k _ _ t394 a2 true _ ?side1 ?side2 A8.out).mono ?_); (case side1 => exact qq12 HO397.out); (case side2 => exact qq50 HO397.out); rintro e w' ⟨rfl, ⟨nd, rfl⟩⟩) | ((with_reducible refine gate_dst (N := 33) rfl ?_); (try (refine gate_guard (by rfl) ?_; dsimp only)); refine Kd.R_lit (Kd.int .i64) _ 3 ?hg (N := 33) ?hd (xs := ([] : List Int)) (inner := []) (ok := fun _ => True) (okp := fun _ => True) ?hr ?hp (fun _ hk => hk) trivial (Below.refl _ _) (Nat.le_refl _) (by simp) ?_; (case hd => rfl); (case hg => rfl); (case hr => exact qq16); (case hp => exact (Reps.none _ _)); intro v401 w12 ho13 hb hg_ hnew_; clear hg_ hnew_; (first | rw [← Ny400.out] at ho13 | (simp only [Int.reduceToNat] at ho13; rw [← Ny400.out] at ho13)); have n0_ := Aside0.mk (Kd.R_elder' (qq2 HO397.out) (Kd.R_base ho13) hb); have n1_ := Aside0.mk (Kd.R_lower (Kd.R_new' ho13 (Kd.R_lt (qq2 HO397.out))) (below_size qq1)); have n2_ := Aside0.mk (below_step qq1 hb); clear HO397; clear HB; have HO397 := n0_; have HO402 := n1_; have HB := n2_; clear n0_ n1_ n2_; clear hb ho13))
        go_ret2
        exact ⟨_, qq11, qq17 HO402.out, qq1⟩
      · replace c9 := Bool.eq_false_iff.mpr c9
        subst c9
        have H1 : (if 0 ≤ a2 then (if a2 < (l1.length : Int) then ((spec_l13Way.f k l1 t394 ((rd_T32 l1 a2).f1) ((rd_T32 l1 a2).f0) (-1)).bind fun bt405 => ((some (([wrap64 (a2 + 1)] : List Int) : List Int)).bind fun y409 => (if y409.length + bt405.1.length < 17592186044416 then (some ((y409 ++ bt405.1), true)) else (none)))) else (none)) else (none)) = some (r1, r2) := by rw [if_neg (show ¬ (false = true) by decide)] at H; exact H
        clear H
        have H := H1
        clear H1
        by_cases c14 : 0 ≤ a2
        · rw [if_pos c14] at H
          have c14b0 : decide (0 ≤ a2) = true := decide_eq_true c14
          clear c14
          by_cases c15 : a2 < (l1.length : Int)
          · rw [if_pos c15] at H
            have c15b0 : decide (a2 < (l1.length : Int)) = true := decide_eq_true c15
            clear c15
            replace H := Option.bind_eq_some_iff.mp H
            obtain ⟨⟨t405, t406⟩, A160, H⟩ := H
            replace H : ((some (([wrap64 (a2 + 1)] : List Int) : List Int)).bind fun y409 => (if y409.length + t405.length < 17592186044416 then (some ((y409 ++ t405), true)) else (none))) = some (r1, r2) := H
            have A16 := Aside0.mk A160
            clear A160
            obtain ⟨y409, hy409⟩ : ∃ y_ : List Int, y_ = (([wrap64 (a2 + 1)] : List Int)) := ⟨_, rfl⟩
            replace H : (if y409.length + t405.length < 17592186044416 then (some ((y409 ++ t405), true)) else (none)) = some (r1, r2) := by first | (rw [hy409]; with_reducible exact H) | (have H2_ := (Option.bind_some _ _).symm.trans H; rw [hy409]; with_reducible exact H2_) | (have H2_ := (Option.bind_some _ _).symm.trans H; with_reducible exact H2_) | with_reducible exact H | (rw [hy409]; exact H) | exact H
            have Ny409 := Aside0.mk hy409
            clear hy409
            by_cases c17 : y409.length + t405.length < 17592186044416
            · rw [if_pos c17] at H
              have LMc17 := Aside0.mk c17
              clear c17
              obtain ⟨y412, hy412⟩ : ∃ y_ : List Int, y_ = (y409 ++ t405) := ⟨_, rfl⟩
              replace H : (some (y412, true)) = some (r1, r2) := by first | (rw [hy412]; with_reducible exact H) | (have H2_ := (Option.bind_some _ _).symm.trans H; rw [hy412]; with_reducible exact H2_) | (have H2_ := (Option.bind_some _ _).symm.trans H; with_reducible exact H2_) | with_reducible exact H | (rw [hy412]; exact H) | exact H
              have Ny412 := Aside0.mk hy412
              clear hy412
              simp only [Option.some.injEq, Prod.mk.injEq] at H
              obtain ⟨rfl, rfl⟩ := H
              go_enter Try.func33, Try.ntmps33
              try go_wp2_with (first | ((with_reducible refine gate_callee (f := 53) rfl ?_); refine goesL_ (some 15) rfl rfl Try.func53 (by kernel_rfl) rfl #[.int .i64 a0, .slice A1 l1.length c1] rfl qq5 ?_; (with_reducible refine (spec_TreeFirst.calls k a0 _ _ l1 t394 true _ ?side1 ?side2 A4.out).mono ?_); (case side1 => exact qq15 HR1.out); (case side2 => exact HC1.out); rintro e w18 ⟨v396, rfl, ho0, hb⟩; refine ⟨_, rfl, ?_⟩; have n0_ := Aside0.mk (Kd.R_lower ho0 (below_size qq1)); have n1_ := Aside0.mk (below_step qq1 hb); clear HB; have HO397 := n0_; have HB := n1_; clear n0_ n1_; (try clear hb); (try clear hb2); (try clear hk); (try clear hi); (try clear ho0)) | (go_at_call 40; (with_reducible refine (spec_l6In.calls a2 0 (wrap64 ((l1.length : Int) - 1)) true _ A6.out).mono ?_); rintro e w' ⟨rfl, ⟨nd, rfl⟩⟩; obtain ⟨Ao19, co19, eo19⟩ := Kd.R_slice HO397.out; subst eo19) | (go_at_call 54; (with_reducible refine (spec_l13Has.calls k _ _ t394 a2 false _ ?side1 ?side2 A8.out).mono ?_); (case side1 => exact qq12 HO397.out); (case side2 => exact qq50 HO397.out); rintro e w' ⟨rfl, ⟨nd, rfl⟩⟩))
              (try (rw [drewN_self w18]; generalize hq_ : World.drewN w18 _ = w18; have n0_ : Aside0 (Kd.R (Kd.int .i64) 3 w18 w.heap.size (fun _ => True) (.slice Ao19 t394.length co19) t394) := ⟨by rw [← hq_]; exact (qq2 HO397.out)⟩; have n1_ : Aside0 (Below w.heap.size w w18) := ⟨by rw [← hq_]; exact qq1⟩; clear HO397 HB hq_; have HO397 := n0_; have HB := n1_; clear n0_ n1_))
              have n0_ := Aside0.mk (Kd.R_drew HO397.out)
              have n1_ := Aside0.mk (below_drew1 HB.out)
              clear HO397
              clear HB
              have HO397 := n0_
              have HB := n1_
              clear n0_ n1_
              have p403 : 0 ≤ (a2 : Int) := of_decide_eq_true qq3
              have q403 : a2 < (l1.length : Int) := of_decide_eq_true qq3
              obtain ⟨ad403, e403, hx403_0, hx403_1, hx403_2, hx403_3⟩ := at_T32 HR1.out a2 p403 q403
              have hw403_3 := hx403_3
              have hw403_2 := hx403_2
              have hw403_1 := hx403_1
              have hw403_0 := hx403_0
              cases e403
              replace hx403_0 := (HB.out.cell (World.block_lt_of_cell? w _ hx403_0)).trans hx403_0
              replace hx403_1 := (HB.out.cell (World.block_lt_of_cell? w _ hx403_1)).trans hx403_1
              replace hx403_2 := (HB.out.cell (World.block_lt_of_cell? w _ hx403_2)).trans hx403_2
              replace hx403_3 := (HB.out.cell (World.block_lt_of_cell? w _ hx403_3)).trans hx403_3
              replace p403 := eq_true p403
              replace q403 := eq_true q403
              have p404 : 0 ≤ (a2 : Int) := of_decide_eq_true qq3
              have q404 : a2 < (l1.length : Int) := of_decide_eq_true qq3
              obtain ⟨ad404, e404, hx404_0, hx404_1, hx404_2, hx404_3⟩ := at_T32 HR1.out a2 p404 q404
              have hw404_3 := hx404_3
              have hw404_2 := hx404_2
              have hw404_1 := hx404_1
              have hw404_0 := hx404_0
              obtain rfl : ad403 = ad404 := (by injection e404)
              replace hx404_0 := (HB.out.cell (World.block_lt_of_cell? w _ hx404_0)).trans hx404_0
              replace hx404_1 := (HB.out.cell (World.block_lt_of_cell? w _ hx404_1)).trans hx404_1
              replace hx404_2 := (HB.out.cell (World.block_lt_of_cell? w _ hx404_2)).trans hx404_2
              replace hx404_3 := (HB.out.cell (World.block_lt_of_cell? w _ hx404_3)).trans hx404_3
              replace p404 := eq_true p404
              replace q404 := eq_true q404
              refine start_ (n := 18) (S := fun w' => w'.cell? (ad403.add ((a2).toNat * 4)) = some (.int .i64 ((rd_T32 l1 a2).f0)) ∧ w'.cell? ⟨(ad403.add ((a2).toNat * 4)).block, (ad403.add ((a2).toNat * 4)).off + 1, none⟩ = some (.int .i64 ((rd_T32 l1 a2).f1)) ∧ w'.cell? ⟨(ad403.add ((a2).toNat * 4)).block, (ad403.add ((a2).toNat * 4)).off + 2, none⟩ = some (.int .i64 ((rd_T32 l1 a2).f2)) ∧ w'.cell? ⟨(ad403.add ((a2).toNat * 4)).block, (ad403.add ((a2).toNat * 4)).off + 3, none⟩ = some (.int .i64 ((rd_T32 l1 a2).f3)) ∧ w'.cell? (ad403.add ((a2).toNat * 4)) = some (.int .i64 ((rd_T32 l1 a2).f0)) ∧ w'.cell? ⟨(ad403.add ((a2).toNat * 4)).block, (ad403.add ((a2).toNat * 4)).off + 1, none⟩ = some (.int .i64 ((rd_T32 l1 a2).f1)) ∧ w'.cell? ⟨(ad403.add ((a2).toNat * 4)).block, (ad403.add ((a2).toNat * 4)).off + 2, none⟩ = some (.int .i64 ((rd_T32 l1 a2).f2)) ∧ w'.cell? ⟨(ad403.add ((a2).toNat * 4)).block, (ad403.add ((a2).toNat * 4)).off + 3, none⟩ = some (.int .i64 ((rd_T32 l1 a2).f3))) (ds := []) #[false, false, false, false, false, false, false, false, false, false, false, false, false, false, false, false, false, false] (by kernel_rfl) rfl rfl ⟨((HB.out.cell (World.block_lt_of_cell? w _ hw403_0)).trans hw403_0), ((HB.out.cell (World.block_lt_of_cell? w _ hw403_1)).trans hw403_1), ((HB.out.cell (World.block_lt_of_cell? w _ hw403_2)).trans hw403_2), ((HB.out.cell (World.block_lt_of_cell? w _ hw403_3)).trans hw403_3), ((HB.out.cell (World.block_lt_of_cell? w _ hw404_0)).trans hw404_0), ((HB.out.cell (World.block_lt_of_cell? w _ hw404_1)).trans hw404_1), ((HB.out.cell (World.block_lt_of_cell? w _ hw404_2)).trans hw404_2), ((HB.out.cell (World.block_lt_of_cell? w _ hw404_3)).trans hw404_3)⟩ (fun hHeld => ?_); refine with_tabW spec_LoopOf.tab4 spec_LoopOf.bits4 (fun HT_ HW_ => ?_)
              generalize w18.drew = w20 at HO397 HB hx403_0 hx403_1 hx403_2 hx403_3 hx404_0 hx404_1 hx404_2 hx404_3 hHeld ⊢
              refine pure_ (i := 0) (N := some 35) #[true, false, false, false, false, false, false, false, false, false, false, false, false, false, false, false, false, false] rfl rfl (any_of HT_.out (by kernel_rfl)) (fun _ _ _ h => h) (Or.inl ⟨by rfl, pA_⟩) pB_ ?_
              refine pure_ (i := 1) (N := some 36) #[true, true, false, false, false, false, false, false, false, false, false, false, false, false, false, false, false, false] rfl rfl (any_of HT_.out (by kernel_rfl)) (fun _ _ _ h => h) (Or.inl ⟨by rfl, pA_⟩) pB_ ?_
              refine pure_ (i := 2) (N := some 37) #[true, true, true, false, false, false, false, false, false, false, false, false, false, false, false, false, false, false] rfl rfl (any_of HT_.out (by kernel_rfl)) (fun _ _ _ h => h) (Or.inl ⟨by rfl, pA_⟩) pB_ ?_
              refine pure_ (i := 3) (N := some 38) #[true, true, true, true, false, false, false, false, false, false, false, false, false, false, false, false, false, false] rfl rfl (any_of HT_.out (by kernel_rfl)) (fun _ _ _ h => h) (Or.inl ⟨by rfl, pA_⟩) pB_ ?_
              refine pure_ (i := 4) (N := some 39) #[true, true, true, true, true, false, false, false, false, false, false, false, false, false, false, false, false, false] rfl rfl (any_of HT_.out (by kernel_rfl)) (fun _ _ _ h => h) (Or.inl ⟨by rfl, pA_⟩) pB_ ?_
              refine pure_ (i := 5) (N := some 40) #[true, true, true, true, true, true, false, false, false, false, false, false, false, false, false, false, false, false] rfl rfl (any_of HT_.out (by kernel_rfl)) (fun _ _ _ h => h) (Or.inl ⟨by rfl, pA_⟩) pB_ ?_
              refine pure_ (i := 7) (N := some 42) #[true, true, true, true, true, true, false, true, false, false, false, false, false, false, false, false, false, false] rfl rfl (any_of HT_.out (by kernel_rfl)) (fun _ _ _ h => h) (Or.inl ⟨by rfl, pA_⟩) pB_ ?_
              refine pure_ (i := 8) (N := some 43) #[true, true, true, true, true, true, false, true, true, false, false, false, false, false, false, false, false, false] rfl rfl (any_of HT_.out (by kernel_rfl)) (fun _ _ _ h => h) (Or.inl ⟨by rfl, pA_⟩) pB_ ?_
              refine pure_ (i := 9) (N := some 44) #[true, true, true, true, true, true, false, true, true, true, false, false, false, false, false, false, false, false] rfl rfl (any_of HT_.out (by kernel_rfl)) (fun _ _ _ h => h) (Or.inl ⟨by rfl, pA_⟩) pB_ ?_
              refine pure_ (i := 10) (N := some 45) #[true, true, true, true, true, true, false, true, true, true, true, false, false, false, false, false, false, false] rfl rfl (any_of HT_.out (by kernel_rfl)) (fun _ _ _ h => h) (Or.inl ⟨by rfl, pA_⟩) pB_ ?_
              refine take_ (i := 6) (N := some 41) (v := ?_) (a' := ?_) #[true, true, true, true, true, true, true, true, true, true, true, false, false, false, false, false, false, false] rfl rfl (take_ofW HT_.out HW_.out (by kernel_rfl)) (fun _ _ _ h => h) (Or.inl ⟨by rfl, ?_⟩) hHeld ?_ ?_
              rotate_left
              · rintro w' ⟨s0, s1, s2, s3, s4, s5, s6, s7⟩
                go_simp
                with_reducible rfl
              rotate_left
              · simp only [Act.put, List.setIfInBounds_toArray, List.set_cons_zero, List.set_cons_succ, i64_w, i32_w]
                rfl
              refine take_ (i := 11) (N := some 46) (v := ?_) (a' := ?_) #[true, true, true, true, true, true, true, true, true, true, true, true, false, false, false, false, false, false] rfl rfl (take_ofW HT_.out HW_.out (by kernel_rfl)) (fun _ _ _ h => h) (Or.inl ⟨by rfl, ?_⟩) hHeld ?_ ?_
              rotate_left
              · rintro w' ⟨s0, s1, s2, s3, s4, s5, s6, s7⟩
                go_simp
                with_reducible rfl
              rotate_left
              · simp only [Act.put, List.setIfInBounds_toArray, List.set_cons_zero, List.set_cons_succ, i64_w, i32_w]
                rfl
              refine one_ (i := 12) (N := some 47) #[true, true, true, true, true, true, true, true, true, true, true, true, true, false, false, false, false, false] rfl rfl (one_of HT_.out (by kernel_rfl)) (by decide) (fun K hK => ?_)
              refine goes_ Try.func55 (by kernel_rfl) rfl #[.slice (some ad403) l1.length c1, .slice Ao19 t394.length co19, .int .i64 ((rd_T32 l1 a2).f1), .int .i64 ((rd_T32 l1 a2).f0), .int .i64 (-1)] (by rfl) rfl rfl qq5 ?_
              with_reducible refine (spec_l13Way.calls k _ _ l1 _ _ t394 ((rd_T32 l1 a2).f1) ((rd_T32 l1 a2).f0) (-1) t405 t406 _ ?side1 ?side2 ?side3 ?side4 A16.out).mono ?_
              (case side1 => exact qq35)
              (case side2 => exact HC1.out)
              (case side3 => exact qq12 HO397.out)
              (case side4 => exact qq50 HO397.out)
              rintro e w21 ⟨v407, rfl, ho0, hb⟩
              refine ⟨_, rfl, ?_⟩
              have n0_ := Aside0.mk (Kd.R_elder' (qq2 HO397.out) (Kd.R_base ho0) hb)
              have n1_ := Aside0.mk (Kd.R_lower (Kd.R_new' ho0 (Kd.R_lt (qq2 HO397.out))) (below_size qq1))
              have n2_ := Aside0.mk (below_step qq1 hb)
              clear HO397
              clear HB
              have HO397 := n0_
              have HO408 := n1_
              have HB := n2_
              clear n0_ n1_ n2_
              (try clear hb)
              (try clear hb2)
              (try clear hk)
              (try clear hi)
              (try clear ho0)
              refine hK.out _ _ ⟨((HB.out.cell (World.block_lt_of_cell? w _ hw403_0)).trans hw403_0), ((HB.out.cell (World.block_lt_of_cell? w _ hw403_1)).trans hw403_1), ((HB.out.cell (World.block_lt_of_cell? w _ hw403_2)).trans hw403_2), ((HB.out.cell (World.block_lt_of_cell? w _ hw403_3)).trans hw403_3), ((HB.out.cell (World.block_lt_of_cell? w _ hw404_0)).trans hw404_0), ((HB.out.cell (World.block_lt_of_cell? w _ hw404_1)).trans hw404_1), ((HB.out.cell (World.block_lt_of_cell? w _ hw404_2)).trans hw404_2), ((HB.out.cell (World.block_lt_of_cell? w _ hw404_3)).trans hw404_3)⟩ (fun hHeld => ?_)
              clear hK K
              refine norm_ (a' := ?_) ?_ ?_
              rotate_left
              · show Act.put _ (some 47) _ = _
                simp only [Act.put, List.setIfInBounds_toArray, List.set_cons_zero, List.set_cons_succ, i64_w, i32_w]
                rfl
              refine pure_ (i := 13) (N := some 34) #[true, true, true, true, true, true, true, true, true, true, true, true, true, true, false, false, false, false] rfl rfl (any_of HT_.out (by kernel_rfl)) (fun _ _ _ h => h) (Or.inl ⟨by rfl, pA_⟩) pB_ ?_
              refine pure_ (i := 14) (N := some 48) #[true, true, true, true, true, true, true, true, true, true, true, true, true, true, true, false, false, false] rfl rfl (any_of HT_.out (by kernel_rfl)) (fun _ _ _ h => h) (Or.inl ⟨by rfl, pA_⟩) pB_ ?_
              refine pure_ (i := 15) (N := some 49) #[true, true, true, true, true, true, true, true, true, true, true, true, true, true, true, true, false, false] rfl rfl (any_of HT_.out (by kernel_rfl)) (fun _ _ _ h => h) (Or.inl ⟨by rfl, pA_⟩) pB_ ?_
              refine pure_ (i := 16) (N := some 10) #[true, true, true, true, true, true, true, true, true, true, true, true, true, true, true, true, true, false] rfl rfl (any_of HT_.out (by kernel_rfl)) (fun _ _ _ h => h) (Or.inl ⟨by rfl, pA_⟩) pB_ ?_
              refine pure_ (i := 17) (N := some 11) #[true, true, true, true, true, true, true, true, true, true, true, true, true, true, true, true, true, true] rfl rfl (any_of HT_.out (by kernel_rfl)) (fun _ _ _ h => h) (Or.inl ⟨by rfl, pA_⟩) pB_ ?_
              refine done_ (done_of HT_.out (by kernel_rfl)) ?_
              try go_wp2_with (first | ((with_reducible refine gate_dst (N := 52) rfl ?_); (try (refine gate_guard (by rfl) ?_; dsimp only)); refine Kd.R_lit (Kd.int .i64) _ 3 ?hg (N := 52) ?hd (xs := ([wrap64 (a2 + 1)] : List Int)) (inner := [.int .i64 (wrap64 (a2 + 1))]) (ok := fun _ => True) (okp := fun _ => True) ?hr ?hp (fun _ hk => hk) trivial (Below.refl _ _) (Nat.le_refl _) (by simp) ?_; (case hd => rfl); (case hg => rfl); (case hr => exact qq16); (case hp => exact qq61); intro v410 w22 ho23 hb hg_ hnew_; clear hg_ hnew_; (first | rw [← Ny409.out] at ho23 | (simp only [Int.reduceToNat] at ho23; rw [← Ny409.out] at ho23)); have n0_ := Aside0.mk (Kd.R_elder' (qq2 HO397.out) (Kd.R_base ho23) hb); have n1_ := Aside0.mk (Kd.R_elder' (qq2 HO408.out) (Kd.R_base ho23) hb); have n2_ := Aside0.mk (Kd.R_lower (Kd.R_new' (Kd.R_new' ho23 (Kd.R_lt (qq2 HO397.out))) (Kd.R_lt (qq2 HO408.out))) (below_size qq1)); have n3_ := Aside0.mk (below_step qq1 hb); clear HO397; clear HO408; clear HB; have HO397 := n0_; have HO408 := n1_; have HO411 := n2_; have HB := n3_; clear n0_ n1_ n2_ n3_; clear hb ho23; obtain ⟨Ao25, co25, eo25⟩ := Kd.R_slice HO408.out; subst eo25) | ((with_reducible refine gate_builtin (b := .append) (xs := #[.tmp 52, .tmp 53]) rfl ?_); (try (refine gate_guard (by rfl) ?_; dsimp only)); at_builtin; refine Kd.R_append_rows (Kd.int .i64) (w0 := w) w.heap.size rfl (.tmp 52) (.tmp 53) 27 3 (.int .i64 0) 8 rfl Try.underlying27 info3 rfl (by decide) (by omega) v410 y409 t405 _ _ _ (fun k_ => some k_ ≠ (.slice Ao19 t394.length co19 : Value).ownBlock ∧ some k_ ≠ (.slice Ao25 t405.length co25 : Value).ownBlock) (fun _ => False) rfl rfl ?aO ?aR (fun _ _ h => h) (fun _ h => h.elim) ?aF ?aB ?aS ?aL ?_; (case aR => exact qq12 HO408.out); (case aB => exact qq1); (case aF => exact (fun k_ hk => ⟨Kd.fresh' (Kd.R_lt (qq2 HO397.out)) k_ hk, Kd.fresh' (Kd.R_lt (qq2 HO408.out)) k_ hk⟩)); (case aO => exact (qq32 HO411.out)); (case aS => exact (below_size qq1)); (case aL => have := LMc17.out; omega); intro v413 w24 ho hb hg hat; rw [← Ny412.out] at ho; have n0_ := Aside0.mk (Kd.R_after (ok := (fun k_ => some k_ ≠ (.slice Ao25 t405.length co25 : Value).ownBlock)) (qq32 HO397.out) hg hat); have n1_ := Aside0.mk (Kd.R_after (ok := (fun k_ => some k_ ≠ (.slice Ao19 t394.length co19 : Value).ownBlock)) (qq32 HO408.out) hg hat); have n2_ := Aside0.mk (hb); have n3_ := Aside0.mk (ho); clear HO397; clear HO408; clear HB; clear HO411; have HO397 := n0_; have HO408 := n1_; have HB := n2_; have HO414 := n3_; clear n0_ n1_ n2_ n3_; clear ho hb hg hat))
              go_ret2
              exact ⟨_, qq11, qq17 HO414.out, qq1⟩
            · rw [if_neg c17] at H
              exact absurd H (by simp)
          · rw [if_neg c15] at H
            exact absurd H (by simp)
        · rw [if_neg c14] at H
          exact absurd H (by simp)
    · replace c7 := Bool.eq_false_iff.mpr c7
      subst c7
      have H1 : (some ((([] : List Int)), false)) = some (r1, r2) := by rw [if_neg (show ¬ (false = true) by decide)] at H; exact H
      clear H
      have H := H1
      clear H1
      obtain ⟨y415, hy415⟩ : ∃ y_ : List Int, y_ = (([] : List Int)) := ⟨_, rfl⟩
      replace H : (some (y415, false)) = some (r1, r2) := by first | (rw [hy415]; with_reducible exact H) | (have H2_ := (Option.bind_some _ _).symm.trans H; rw [hy415]; with_reducible exact H2_) | (have H2_ := (Option.bind_some _ _).symm.trans H; with_reducible exact H2_) | with_reducible exact H | (rw [hy415]; exact H) | exact H
      have Ny415 := Aside0.mk hy415
      clear hy415
      simp only [Option.some.injEq, Prod.mk.injEq] at H
      obtain ⟨rfl, rfl⟩ := H
      go_enter Try.func33, Try.ntmps33
      go_wp2_with (first | ((with_reducible refine gate_callee (f := 53) rfl ?_); refine goesL_ (some 15) rfl rfl Try.func53 (by kernel_rfl) rfl #[.int .i64 a0, .slice A1 l1.length c1] rfl qq5 ?_; (with_reducible refine (spec_TreeFirst.calls k a0 _ _ l1 t394 true _ ?side1 ?side2 A4.out).mono ?_); (case side1 => exact qq15 HR1.out); (case side2 => exact HC1.out); rintro e w26 ⟨v396, rfl, ho0, hb⟩; refine ⟨_, rfl, ?_⟩; have n0_ := Aside0.mk (Kd.R_lower ho0 (below_size qq1)); have n1_ := Aside0.mk (below_step qq1 hb); clear HB; have HO397 := n0_; have HB := n1_; clear n0_ n1_; (try clear hb); (try clear hb2); (try clear hk); (try clear hi); (try clear ho0)) | (go_at_call 40; (with_reducible refine (spec_l6In.calls a2 0 (wrap64 ((l1.length : Int) - 1)) false _ A6.out).mono ?_); rintro e w' ⟨rfl, ⟨nd, rfl⟩⟩) | ((with_reducible refine gate_dst (N := 33) rfl ?_); (try (refine gate_guard (by rfl) ?_; dsimp only)); refine Kd.R_lit (Kd.int .i64) _ 3 ?hg (N := 33) ?hd (xs := ([] : List Int)) (inner := []) (ok := fun _ => True) (okp := fun _ => True) ?hr ?hp (fun _ hk => hk) trivial (Below.refl _ _) (Nat.le_refl _) (by simp) ?_; (case hd => rfl); (case hg => rfl); (case hr => exact qq16); (case hp => exact (Reps.none _ _)); intro v416 w27 ho28 hb hg_ hnew_; clear hg_ hnew_; (first | rw [← Ny415.out] at ho28 | (simp only [Int.reduceToNat] at ho28; rw [← Ny415.out] at ho28)); have n0_ := Aside0.mk (Kd.R_elder' (qq2 HO397.out) (Kd.R_base ho28) hb); have n1_ := Aside0.mk (Kd.R_lower (Kd.R_new' ho28 (Kd.R_lt (qq2 HO397.out))) (below_size qq1)); have n2_ := Aside0.mk (below_step qq1 hb); clear HO397; clear HB; have HO397 := n0_; have HO417 := n1_; have HB := n2_; clear n0_ n1_ n2_; clear hb ho28))
      go_ret2
      exact ⟨_, qq11, qq17 HO417.out, qq1⟩
  · replace c5 := Bool.eq_false_iff.mpr c5
    subst c5
    have H1 : (some ((([] : List Int)), false)) = some (r1, r2) := by rw [if_neg (show ¬ (false = true) by decide)] at H; exact H
    clear H
    have H := H1
    clear H1
    obtain ⟨y418, hy418⟩ : ∃ y_ : List Int, y_ = (([] : List Int)) := ⟨_, rfl⟩
    replace H : (some (y418, false)) = some (r1, r2) := by first | (rw [hy418]; with_reducible exact H) | (have H2_ := (Option.bind_some _ _).symm.trans H; rw [hy418]; with_reducible exact H2_) | (have H2_ := (Option.bind_some _ _).symm.trans H; with_reducible exact H2_) | with_reducible exact H | (rw [hy418]; exact H) | exact H
    have Ny418 := Aside0.mk hy418
    clear hy418
    simp only [Option.some.injEq, Prod.mk.injEq] at H
    obtain ⟨rfl, rfl⟩ := H
    go_enter Try.func33, Try.ntmps33
    go_wp2_with (first | ((with_reducible refine gate_callee (f := 53) rfl ?_); refine goesL_ (some 15) rfl rfl Try.func53 (by kernel_rfl) rfl #[.int .i64 a0, .slice A1 l1.length c1] rfl qq5 ?_; (with_reducible refine (spec_TreeFirst.calls k a0 _ _ l1 t394 false _ ?side1 ?side2 A4.out).mono ?_); (case side1 => exact qq15 HR1.out); (case side2 => exact HC1.out); rintro e w29 ⟨v396, rfl, ho0, hb⟩; refine ⟨_, rfl, ?_⟩; have n0_ := Aside0.mk (Kd.R_lower ho0 (below_size qq1)); have n1_ := Aside0.mk (below_step qq1 hb); clear HB; have HO397 := n0_; have HB := n1_; clear n0_ n1_; (try clear hb); (try clear hb2); (try clear hk); (try clear hi); (try clear ho0)) | ((with_reducible refine gate_dst (N := 33) rfl ?_); (try (refine gate_guard (by rfl) ?_; dsimp only)); refine Kd.R_lit (Kd.int .i64) _ 3 ?hg (N := 33) ?hd (xs := ([] : List Int)) (inner := []) (ok := fun _ => True) (okp := fun _ => True) ?hr ?hp (fun _ hk => hk) trivial (Below.refl _ _) (Nat.le_refl _) (by simp) ?_; (case hd => rfl); (case hg => rfl); (case hr => exact qq16); (case hp => exact (Reps.none _ _)); intro v419 w30 ho31 hb hg_ hnew_; clear hg_ hnew_; (first | rw [← Ny418.out] at ho31 | (simp only [Int.reduceToNat] at ho31; rw [← Ny418.out] at ho31)); have n0_ := Aside0.mk (Kd.R_elder' (qq2 HO397.out) (Kd.R_base ho31) hb); have n1_ := Aside0.mk (Kd.R_lower (Kd.R_new' ho31 (Kd.R_lt (qq2 HO397.out))) (below_size qq1)); have n2_ := Aside0.mk (below_step qq1 hb); clear HO397; clear HB; have HO397 := n0_; have HO420 := n1_; have HB := n2_; clear n0_ n1_ n2_; clear hb ho31))
    go_ret2
    exact ⟨_, qq11, qq17 HO420.out, qq1⟩

end Go.Proofs.Ytmcfhmflncghiaa.Q
namespace Go.Proofs.Ytmcfhmflncghiaa.Q
open Go.RowKit Go.Proofs.YtmcfhmflncghiaaW.PrintWords Go.Proofs.YtmcfhmflncghiaaW.PrintLast Go.Proofs.YtmcfhmflncghiaaW.PrintMore
attribute [local go_sem] max2_int min2_int max_two min_two max_three min_three max_four min_four
set_option linter.unusedVariables false
set_option linter.unusedSimpArgs false

/-! ### spec_LoopErrors: function 16 -/
def spec_LoopErrors.l0 : Nat → Int → List (S32) → List Int → Int → Option (List Int × Bool)
  | 0, _, _, _, _ => none
  | k + 1, x0, x1, x6, x7 => if x7 < (x1.length : Int) then ((spec_LoopOf.f k x0 x1 x7).bind fun bt430 => (if bt430.2 = true then ((spec_l13Error.f k x1 bt430.1).bind fun t434 => (if x6.length < 17592186044416 then (spec_LoopErrors.l0 k x0 x1 (x6 ++ [t434]) (wrap64 (x7 + 1))) else (none))) else (spec_LoopErrors.l0 k x0 x1 x6 (wrap64 (x7 + 1))))) else (some (x6, true))
def spec_LoopErrors.f (k : Nat) (a0 : Int) (l1 : List (S32)) : Option (List Int × Bool) := (some (([] : List Int) : List Int)).bind fun y426 => ((spec_NetWhole.f k a0 l1).bind fun t429 => (if t429 = true then (spec_LoopErrors.l0 k a0 l1 y426 0) else (some (y426, false))))
set_option maxHeartbeats 8000000 in
set_option maxRecDepth 100000 in
theorem spec_LoopErrors.calls (k : Nat) (a0 : Int) (A1 : Option Addr) (c1 : Nat) (l1 : List (S32)) (r1 : List Int) (r2 : Bool) (w : World) (hr1 : Kd.C k32 w A1 l1.length l1) (hc1 : l1.length ≤ c1) (h : spec_LoopErrors.f k a0 l1 = some (r1, r2)) :
    Calls Try.prog 16 #[.int .i64 a0, .slice A1 l1.length c1] w fun e w' => ∃ v0_ : Value, e = .returned (.tuple #[v0_, .bool r2]) ∧ Kd.R (Kd.int .i64) 3 w' w.heap.size (fun _ => True) v0_ r1 ∧ Below w.heap.size w w' := by
  have HR1 := Aside0.mk hr1
  have HC1 := Aside0.mk hc1
  clear hr1 hc1
  have HB := Aside0.mk (Below.refl w.heap.size w)
  have H : ((some (([] : List Int) : List Int)).bind fun y426 => ((spec_NetWhole.f k a0 l1).bind fun t429 => (if t429 = true then (spec_LoopErrors.l0 k a0 l1 y426 0) else (some (y426, false))))) = some (r1, r2) := h
  clear h
  obtain ⟨y426, hy426⟩ : ∃ y_ : List Int, y_ = (([] : List Int)) := ⟨_, rfl⟩
  replace H : ((spec_NetWhole.f k a0 l1).bind fun t429 => (if t429 = true then (spec_LoopErrors.l0 k a0 l1 y426 0) else (some (y426, false)))) = some (r1, r2) := by first | (rw [hy426]; with_reducible exact H) | (have H2_ := (Option.bind_some _ _).symm.trans H; rw [hy426]; with_reducible exact H2_) | (have H2_ := (Option.bind_some _ _).symm.trans H; with_reducible exact H2_) | with_reducible exact H | (rw [hy426]; exact H) | exact H
  have Ny426 := Aside0.mk hy426
  clear hy426
  replace H := Option.bind_eq_some_iff.mp H
  obtain ⟨t429, A30, H⟩ := H
  replace H : (if t429 = true then (spec_LoopErrors.l0 k a0 l1 y426 0) else (some (y426, false))) = some (r1, r2) := H
  have A3 := Aside0.mk A30
  clear A30
  by_cases c4 : t429 = true
  · subst c4
    have H1 : (spec_LoopErrors.l0 k a0 l1 y426 0) = some (r1, r2) := by rw [if_pos rfl] at H; exact H
    clear H
    have H := H1
    clear H1
    have H' := Aside0.mk H
    clear H
    go_enter Try.func16, Try.ntmps16
    go_wp2_with (first | ((with_reducible refine gate_dst (N := 10) rfl ?_); refine Kd.R_lit (Kd.int .i64) _ 3 ?hg (N := 10) ?hd (xs := ([] : List Int)) (inner := []) (ok := fun _ => True) (okp := fun _ => True) ?hr ?hp (fun _ hk => hk) trivial (Below.refl _ _) (Nat.le_refl _) (by simp) ?_; (case hd => rfl); (case hg => rfl); (case hr => exact qq16); (case hp => exact (Reps.none _ _)); intro v427 w5 ho6 hb hg_ hnew_; clear hg_ hnew_; (first | rw [← Ny426.out] at ho6 | (simp only [Int.reduceToNat] at ho6; rw [← Ny426.out] at ho6)); have n0_ := Aside0.mk (Kd.R_lower ho6 (below_size qq1)); have n1_ := Aside0.mk (below_step qq1 hb); clear HB; have HO428 := n0_; have HB := n1_; clear n0_ n1_; clear hb ho6) | ((with_reducible refine gate_callee (f := 32) rfl ?_); refine goesL_ (some 13) rfl rfl Try.func32 (by kernel_rfl) rfl #[.int .i64 a0, .slice A1 l1.length c1] rfl qq5 ?_; (with_reducible refine (spec_NetWhole.calls k a0 _ _ l1 true _ ?side1 ?side2 A3.out).mono ?_); (case side1 => exact qq35); (case side2 => exact HC1.out); rintro e w7 ⟨rfl, hb⟩; refine ⟨_, rfl, ?_⟩; have n0_ := Aside0.mk (Kd.R_below (qq2 HO428.out) hb); have n1_ := Aside0.mk (below_step qq1 hb); clear HO428; clear HB; have HO428 := n0_; have HB := n1_; clear n0_ n1_; (try clear hb); (try clear hb2); (try clear hk); (try clear hi)))
    go_loopg [6, 7] k (fun kq v6 v7 w' => ∃ (x6_1 : List Int) (x7_1 : Int), v7 = .int .i64 x7_1 ∧ Aside0 (spec_LoopErrors.l0 kq a0 l1 x6_1 x7_1 = some (r1, r2)) ∧ Aside0 (kq ≤ k) ∧ Aside0 (Kd.R (Kd.int .i64) 3 w' w.heap.size (fun _ => True) v6 x6_1) ∧ Aside0 (Below w.heap.size w w'))
    case atStart => exact ⟨(y426), (0), qq13, H', ⟨Nat.le_refl _⟩, ⟨qq2 HO428.out⟩, ⟨qq1⟩⟩
    case round =>
      clear H'
      try clear c1
      try clear p2
      try clear c3
      try clear c4
      obtain ⟨x6_1, x7_1, rfl, HA, HK1, HO_6, HB⟩ := hrel
      cases gk with
      | zero => exact absurd HA.out (by simp [spec_LoopErrors.l0])
      | succ k1 =>
        have H := HA.out
        clear HA
        simp only [spec_LoopErrors.l0] at H
        by_cases c8 : x7_1 < (l1.length : Int)
        · rw [if_pos c8] at H
          have c8b0 : decide (x7_1 < (l1.length : Int)) = true := decide_eq_true c8
          clear c8
          replace H := Option.bind_eq_some_iff.mp H
          obtain ⟨⟨t430, t431⟩, A90, H⟩ := H
          replace H : (if t431 = true then ((spec_l13Error.f k1 l1 t430).bind fun t434 => (if x6_1.length < 17592186044416 then (spec_LoopErrors.l0 k1 a0 l1 (x6_1 ++ [t434]) (wrap64 (x7_1 + 1))) else (none))) else (spec_LoopErrors.l0 k1 a0 l1 x6_1 (wrap64 (x7_1 + 1)))) = some (r1, r2) := H
          have A9 := Aside0.mk A90
          clear A90
          by_cases c10 : t431 = true
          · subst c10
            have H1 : ((spec_l13Error.f k1 l1 t430).bind fun t434 => (if x6_1.length < 17592186044416 then (spec_LoopErrors.l0 k1 a0 l1 (x6_1 ++ [t434]) (wrap64 (x7_1 + 1))) else (none))) = some (r1, r2) := by rw [if_pos rfl] at H; exact H
            clear H
            have H := H1
            clear H1
            replace H := Option.bind_eq_some_iff.mp H
            obtain ⟨t434, A110, H⟩ := H
            replace H : (if x6_1.length < 17592186044416 then (spec_LoopErrors.l0 k1 a0 l1 (x6_1 ++ [t434]) (wrap64 (x7_1 + 1))) else (none)) = some (r1, r2) := H
            have A11 := Aside0.mk A110
            clear A110
            by_cases c12 : x6_1.length < 17592186044416
            · rw [if_pos c12] at H
              have LMc12 := Aside0.mk c12
              clear c12
              obtain ⟨y435, hy435⟩ : ∃ y_ : List Int, y_ = (x6_1 ++ [t434]) := ⟨_, rfl⟩
              replace H : (spec_LoopErrors.l0 k1 a0 l1 y435 (wrap64 (x7_1 + 1))) = some (r1, r2) := by first | (rw [hy435]; with_reducible exact H) | (have H2_ := (Option.bind_some _ _).symm.trans H; rw [hy435]; with_reducible exact H2_) | (have H2_ := (Option.bind_some _ _).symm.trans H; with_reducible exact H2_) | with_reducible exact H | (rw [hy435]; exact H) | exact H
              have Ny435 := Aside0.mk hy435
              clear hy435
              have H' := Aside0.mk H
              clear H
              go_wp2_with (first | ((with_reducible refine gate_callee (f := 33) rfl ?_); refine goesL_ (some 26) rfl rfl Try.func33 (by kernel_rfl) rfl #[.int .i64 a0, .slice A1 l1.length c1, .int .i64 x7_1] rfl qq5 ?_; (with_reducible refine (spec_LoopOf.calls k1 a0 _ _ l1 x7_1 t430 true _ ?side1 ?side2 A9.out).mono ?_); (case side1 => exact qq35); (case side2 => exact HC1.out); rintro e w13 ⟨v432, rfl, ho0, hb⟩; refine ⟨_, rfl, ?_⟩; have n0_ := Aside0.mk (Kd.R_elder' (qq2 HO_6.out) (Kd.R_base ho0) hb); have n1_ := Aside0.mk (Kd.R_lower (Kd.R_new' ho0 (Kd.R_lt (qq2 HO_6.out))) (below_size qq1)); have n2_ := Aside0.mk (below_step qq1 hb); clear HO_6; clear HB; have HO_6 := n0_; have HO433 := n1_; have HB := n2_; clear n0_ n1_ n2_; (try clear hb); (try clear hb2); (try clear hk); (try clear hi); (try clear ho0); obtain ⟨Ao14, co14, eo14⟩ := Kd.R_slice HO433.out; subst eo14) | ((with_reducible refine gate_callee (f := 34) rfl ?_); refine goesL_ (some 33) rfl rfl Try.func34 (by kernel_rfl) rfl #[.slice A1 l1.length c1, .slice Ao14 t430.length co14] rfl qq5 ?_; (with_reducible refine (spec_l13Error.calls k1 _ _ l1 _ _ t430 t434 _ ?side1 ?side2 ?side3 ?side4 A11.out).mono ?_); (case side1 => exact qq35); (case side2 => exact HC1.out); (case side3 => exact qq12 HO433.out); (case side4 => exact qq50 HO433.out); rintro e w' ⟨rfl, ⟨nd, rfl⟩⟩; refine ⟨_, rfl, ?_⟩) | ((with_reducible refine gate_builtin (b := .append) (xs := #[.tmp 30, .tmp 34]) rfl ?_); at_builtin; refine Kd.R_append (Kd.int .i64) (w0 := w) w.heap.size rfl (.tmp 30) (.tmp 34) 27 3 (.int .i64 0) 8 rfl Try.underlying27 info3 rfl (by decide) (by omega) u6 x6_1 t434 [.int .i64 t434] (fun k_ => some k_ ≠ (.slice Ao14 t430.length co14 : Value).ownBlock) (fun _ => False) rfl rfl ?aP (fun _ hk => hk.elim) ?aF ?aO ?aB ?aS ?aL ?_; (case aP => exact rfl); (case aB => exact qq1); (case aF => exact qq57 HO433.out); (case aO => exact (qq21 HO_6.out)); (case aS => exact (below_size qq1)); (case aL => have := LMc12.out; omega); intro v436 w15 ho hb hg hat; rw [← Ny435.out] at ho; have n0_ := Aside0.mk (Kd.R_after (ok := (fun _ => True)) (qq2 HO433.out) hg hat); have n1_ := Aside0.mk (hb); have n2_ := Aside0.mk (ho); clear HO433; clear HB; clear HO_6; have HO433 := n0_; have HB := n1_; have HO437 := n2_; clear n0_ n1_ n2_; clear ho hb hg hat))
              go_roundg k1
              case measure => have := HK1.out; omega
              case rel => exact ⟨(y435), (wrap64 (x7_1 + 1)), qq13, H', ⟨by have := HK1.out; omega⟩, ⟨qq17 HO437.out⟩, ⟨qq1⟩⟩
            · rw [if_neg c12] at H
              exact absurd H (by simp)
          · replace c10 := Bool.eq_false_iff.mpr c10
            subst c10
            have H1 : (spec_LoopErrors.l0 k1 a0 l1 x6_1 (wrap64 (x7_1 + 1))) = some (r1, r2) := by rw [if_neg (show ¬ (false = true) by decide)] at H; exact H
            clear H
            have H := H1
            clear H1
            have H' := Aside0.mk H
            clear H
            go_wp2_with (first | ((with_reducible refine gate_callee (f := 33) rfl ?_); refine goesL_ (some 26) rfl rfl Try.func33 (by kernel_rfl) rfl #[.int .i64 a0, .slice A1 l1.length c1, .int .i64 x7_1] rfl qq5 ?_; (with_reducible refine (spec_LoopOf.calls k1 a0 _ _ l1 x7_1 t430 false _ ?side1 ?side2 A9.out).mono ?_); (case side1 => exact qq35); (case side2 => exact HC1.out); rintro e w16 ⟨v432, rfl, ho0, hb⟩; refine ⟨_, rfl, ?_⟩; have n0_ := Aside0.mk (Kd.R_elder' (qq2 HO_6.out) (Kd.R_base ho0) hb); have n1_ := Aside0.mk (Kd.R_lower (Kd.R_new' ho0 (Kd.R_lt (qq2 HO_6.out))) (below_size qq1)); have n2_ := Aside0.mk (below_step qq1 hb); clear HO_6; clear HB; have HO_6 := n0_; have HO433 := n1_; have HB := n2_; clear n0_ n1_ n2_; (try clear hb); (try clear hb2); (try clear hk); (try clear hi); (try clear ho0)))
            go_roundg k1
            case measure => have := HK1.out; omega
            case rel => exact ⟨(x6_1), (wrap64 (x7_1 + 1)), qq13, H', ⟨by have := HK1.out; omega⟩, ⟨qq17 HO_6.out⟩, ⟨qq1⟩⟩
        · rw [if_neg c8] at H
          have c8b0 : decide (x7_1 < (l1.length : Int)) = false := decide_eq_false c8
          clear c8
          simp only [Option.some.injEq, Prod.mk.injEq] at H
          obtain ⟨rfl, rfl⟩ := H
          go_wp2
          go_ret2
          exact ⟨_, qq11, qq2 HO_6.out, qq1⟩
  · replace c4 := Bool.eq_false_iff.mpr c4
    subst c4
    have H1 : (some (y426, false)) = some (r1, r2) := by rw [if_neg (show ¬ (false = true) by decide)] at H; exact H
    clear H
    have H := H1
    clear H1
    simp only [Option.some.injEq, Prod.mk.injEq] at H
    obtain ⟨rfl, rfl⟩ := H
    go_enter Try.func16, Try.ntmps16
    go_wp2_with (first | ((with_reducible refine gate_dst (N := 10) rfl ?_); refine Kd.R_lit (Kd.int .i64) _ 3 ?hg (N := 10) ?hd (xs := ([] : List Int)) (inner := []) (ok := fun _ => True) (okp := fun _ => True) ?hr ?hp (fun _ hk => hk) trivial (Below.refl _ _) (Nat.le_refl _) (by simp) ?_; (case hd => rfl); (case hg => rfl); (case hr => exact qq16); (case hp => exact (Reps.none _ _)); intro v427 w17 ho18 hb hg_ hnew_; clear hg_ hnew_; (first | rw [← Ny426.out] at ho18 | (simp only [Int.reduceToNat] at ho18; rw [← Ny426.out] at ho18)); have n0_ := Aside0.mk (Kd.R_lower ho18 (below_size qq1)); have n1_ := Aside0.mk (below_step qq1 hb); clear HB; have HO428 := n0_; have HB := n1_; clear n0_ n1_; clear hb ho18) | ((with_reducible refine gate_callee (f := 32) rfl ?_); refine goesL_ (some 13) rfl rfl Try.func32 (by kernel_rfl) rfl #[.int .i64 a0, .slice A1 l1.length c1] rfl qq5 ?_; (with_reducible refine (spec_NetWhole.calls k a0 _ _ l1 false _ ?side1 ?side2 A3.out).mono ?_); (case side1 => exact qq35); (case side2 => exact HC1.out); rintro e w19 ⟨rfl, hb⟩; refine ⟨_, rfl, ?_⟩; have n0_ := Aside0.mk (Kd.R_below (qq2 HO428.out) hb); have n1_ := Aside0.mk (below_step qq1 hb); clear HO428; clear HB; have HO428 := n0_; have HB := n1_; clear n0_ n1_; (try clear hb); (try clear hb2); (try clear hk); (try clear hi)))
    go_ret2
    exact ⟨_, qq11, qq2 HO428.out, qq1⟩

end Go.Proofs.Ytmcfhmflncghiaa.Q
namespace Go.Proofs.Ytmcfhmflncghiaa.Q
open Go.RowKit Go.Proofs.YtmcfhmflncghiaaW.PrintWords Go.Proofs.YtmcfhmflncghiaaW.PrintLast Go.Proofs.YtmcfhmflncghiaaW.PrintMore
attribute [local go_sem] max2_int min2_int max_two min_two max_three min_three max_four min_four
set_option linter.unusedVariables false
set_option linter.unusedSimpArgs false

/-! ### impl_TreeIs: function 28 -/
mutual
def impl_TreeIs.j0 : Nat → Int → List (S32) → List Int → Bool → Option (Bool)
  | 0, _, _, _, _ => none
  | k + 1, x0, x1, x2, x20 => if x20 = true then (some false) else (impl_TreeIs.l0 k x0 x1 x2 (-1) x2 (x2.length : Int) 0)
def impl_TreeIs.l0 : Nat → Int → List (S32) → List Int → Int → List Int → Int → Int → Option (Bool)
  | 0, _, _, _, _, _, _, _ => none
  | k + 1, x0, x1, x2, x7, x21, x22, x23 => if x23 < x22 then (if 0 ≤ x23 then (if x23 < (x21.length : Int) then (if (rd x21 x23) ≤ x7 then (some false) else (if (rd x21 x23) ≥ (x1.length : Int) then (some false) else (impl_TreeIs.l0 k x0 x1 x2 (rd x21 x23) x21 x22 (wrap64 (x23 + 1))))) else (none)) else (none)) else ((impl_pick.f k x1 x2).bind fun t445 => ((impl_NetWhole.f k x0 t445).bind fun t448 => (some t448)))
end
def impl_TreeIs.f (k : Nat) (a0 : Int) (l1 : List (S32)) (l2 : List Int) : Option (Bool) := (impl_NetValid.f k a0 l1).bind fun t443 => (if t443 = true then (impl_TreeIs.j0 k a0 l1 l2 ((l2.length : Int) != (wrap64 (a0 - 1)))) else (impl_TreeIs.j0 k a0 l1 l2 true))
set_option maxHeartbeats 8000000 in
set_option maxRecDepth 100000 in
theorem impl_TreeIs.calls (k : Nat) (a0 : Int) (A1 : Option Addr) (c1 : Nat) (l1 : List (S32)) (A2 : Option Addr) (c2 : Nat) (l2 : List Int) (r : Bool) (w : World) (hr1 : Kd.C k32 w A1 l1.length l1) (hc1 : l1.length ≤ c1) (hr2 : Kd.C (Kd.int .i64) w A2 l2.length l2) (hc2 : l2.length ≤ c2) (h : impl_TreeIs.f k a0 l1 l2 = some r) :
    Calls Try.prog 28 #[.int .i64 a0, .slice A1 l1.length c1, .slice A2 l2.length c2] w fun e w' => e = .returned (.bool r) ∧ Below w.heap.size w w' := by
  have HR1 := Aside0.mk hr1
  have HC1 := Aside0.mk hc1
  clear hr1 hc1
  have HR2 := Aside0.mk hr2
  have HC2 := Aside0.mk hc2
  clear hr2 hc2
  have HB := Aside0.mk (Below.refl w.heap.size w)
  have H : ((impl_NetValid.f k a0 l1).bind fun t443 => (if t443 = true then (impl_TreeIs.j0 k a0 l1 l2 ((l2.length : Int) != (wrap64 (a0 - 1)))) else (impl_TreeIs.j0 k a0 l1 l2 true))) = some r := h
  clear h
  have HC4 := Aside0.mk H
  clear H
  go_enter Try.func28, Try.ntmps28
  go_upto_region 1 with (fail)
  go_cut [20] (fun v20 wc => ∃ (kq : Nat) (x20_3 : Bool), v20 = .bool x20_3 ∧ Aside0 (impl_TreeIs.j0 kq a0 l1 l2 x20_3 = some r) ∧ Aside0 (kq ≤ k) ∧ Aside0 (Below w.heap.size w wc))
  case first =>
    have H := HC4.out
    clear HC4
    replace H := Option.bind_eq_some_iff.mp H
    obtain ⟨t443, A50, H⟩ := H
    replace H : (if t443 = true then (impl_TreeIs.j0 k a0 l1 l2 ((l2.length : Int) != (wrap64 (a0 - 1)))) else (impl_TreeIs.j0 k a0 l1 l2 true)) = some r := H
    have A5 := Aside0.mk A50
    clear A50
    by_cases c6 : t443 = true
    · subst c6
      have H1 : (impl_TreeIs.j0 k a0 l1 l2 ((l2.length : Int) != (wrap64 (a0 - 1)))) = some r := by rw [if_pos rfl] at H; exact H
      clear H
      have H := H1
      clear H1
      have H' := Aside0.mk H
      clear H
      go_wp2_with (first | ((with_reducible refine gate_callee (f := 23) rfl ?_); refine goesL_ (some 12) rfl rfl Try.func23 (by kernel_rfl) rfl #[.int .i64 a0, .slice A1 l1.length c1] rfl qq5 ?_; (with_reducible refine (impl_NetValid.calls k a0 _ _ l1 true _ ?side1 ?side2 A5.out).mono ?_); (case side1 => exact qq35); (case side2 => exact HC1.out); rintro e w7 ⟨rfl, hb⟩; refine ⟨_, rfl, ?_⟩; have n0_ := Aside0.mk (below_step qq1 hb); clear HB; have HB := n0_; clear n0_; (try clear hb); (try clear hb2); (try clear hk); (try clear hi)))
      go_meet
      case rel => exact ⟨_, (((l2.length : Int) != (wrap64 (a0 - 1)))), qq13, H', ⟨qq37⟩, ⟨qq1⟩⟩
    · replace c6 := Bool.eq_false_iff.mpr c6
      subst c6
      have H1 : (impl_TreeIs.j0 k a0 l1 l2 true) = some r := by rw [if_neg (show ¬ (false = true) by decide)] at H; exact H
      clear H
      have H := H1
      clear H1
      have H' := Aside0.mk H
      clear H
      go_wp2_with (first | ((with_reducible refine gate_callee (f := 23) rfl ?_); refine goesL_ (some 12) rfl rfl Try.func23 (by kernel_rfl) rfl #[.int .i64 a0, .slice A1 l1.length c1] rfl qq5 ?_; (with_reducible refine (impl_NetValid.calls k a0 _ _ l1 false _ ?side1 ?side2 A5.out).mono ?_); (case side1 => exact qq35); (case side2 => exact HC1.out); rintro e w8 ⟨rfl, hb⟩; refine ⟨_, rfl, ?_⟩; have n0_ := Aside0.mk (below_step qq1 hb); clear HB; have HB := n0_; clear n0_; (try clear hb); (try clear hb2); (try clear hk); (try clear hi)))
      go_meet
      case rel => exact ⟨_, (true), qq13, H', ⟨qq37⟩, ⟨qq1⟩⟩
  case rest =>
    clear HC4
    try clear c1
    try clear c2
    try clear p2
    try clear c6
    try clear p6
    obtain ⟨kq, x20_3, rfl, HA, HJ3, HB⟩ := hcut
    cases kq with
    | zero => exact absurd HA.out (by simp [impl_TreeIs.j0])
    | succ kj3 =>
      have H := HA.out
      clear HA
      simp only [impl_TreeIs.j0] at H
      by_cases c9 : x20_3 = true
      · subst c9
        have H1 : (some false) = some r := by rw [if_pos rfl] at H; exact H
        clear H
        have H := H1
        clear H1
        obtain rfl := Option.some.inj H
        go_wp2
        go_ret
        exact ⟨qq11, qq1⟩
      · replace c9 := Bool.eq_false_iff.mpr c9
        subst c9
        have H1 : (impl_TreeIs.l0 kj3 a0 l1 l2 (-1) l2 (l2.length : Int) 0) = some r := by rw [if_neg (show ¬ (false = true) by decide)] at H; exact H
        clear H
        have H := H1
        clear H1
        have H' := Aside0.mk H
        clear H
        go_wp2
        go_loopg [7, 23] kj3 (fun kq v7 v23 w' => ∃ (x7_2 : Int) (x23_2 : Int), v7 = .int .i64 x7_2 ∧ v23 = .int .i64 x23_2 ∧ Aside0 (impl_TreeIs.l0 kq a0 l1 l2 x7_2 l2 (l2.length : Int) x23_2 = some r) ∧ Aside0 (kq ≤ kj3) ∧ Aside0 (Below w.heap.size w w'))
        case atStart => exact ⟨((-1)), (0), qq13, qq13, H', ⟨Nat.le_refl _⟩, ⟨qq1⟩⟩
        case round =>
          clear H'
          try clear c1
          try clear c2
          try clear p2
          try clear c6
          try clear p6
          try clear c9
          try clear p2
          try clear p6
          obtain ⟨x7_2, x23_2, rfl, rfl, HA, HK2, HB⟩ := hrel
          cases gk with
          | zero => exact absurd HA.out (by simp [impl_TreeIs.l0])
          | succ k2 =>
            have H := HA.out
            clear HA
            simp only [impl_TreeIs.l0] at H
            by_cases c10 : x23_2 < (l2.length : Int)
            · rw [if_pos c10] at H
              have c10b0 : decide (x23_2 < (l2.length : Int)) = true := decide_eq_true c10
              clear c10
              by_cases c11 : 0 ≤ x23_2
              · rw [if_pos c11] at H
                have c11b0 : decide (0 ≤ x23_2) = true := decide_eq_true c11
                clear c11
                by_cases c12 : x23_2 < (l2.length : Int)
                · rw [if_pos c12] at H
                  have c12b0 : decide (x23_2 < (l2.length : Int)) = true := decide_eq_true c12
                  clear c12
                  by_cases c13 : (rd l2 x23_2) ≤ x7_2
                  · rw [if_pos c13] at H
                    have c13b0 : decide ((rd l2 x23_2) ≤ x7_2) = true := decide_eq_true c13
                    clear c13
                    obtain rfl := Option.some.inj H
                    have p444 : 0 ≤ (x23_2 : Int) := of_decide_eq_true qq3
                    have q444 : x23_2 < (l2.length : Int) := of_decide_eq_true qq3
                    obtain ⟨ad444, e444, hx444_0⟩ := Kd.at_int HR2.out x23_2 p444 q444
                    cases e444
                    replace hx444_0 := (HB.out.cell (World.block_lt_of_cell? w _ hx444_0)).trans hx444_0
                    replace p444 := eq_true p444
                    replace q444 := eq_true q444
                    go_wp2
                    go_ret
                    exact ⟨qq11, qq1⟩
                  · rw [if_neg c13] at H
                    have c13b0 : decide ((rd l2 x23_2) ≤ x7_2) = false := decide_eq_false c13
                    clear c13
                    by_cases c14 : (rd l2 x23_2) ≥ (l1.length : Int)
                    · rw [if_pos c14] at H
                      have c14b0 : decide ((l1.length : Int) ≤ (rd l2 x23_2)) = true := decide_eq_true c14
                      clear c14
                      obtain rfl := Option.some.inj H
                      have p444 : 0 ≤ (x23_2 : Int) := of_decide_eq_true qq3
                      have q444 : x23_2 < (l2.length : Int) := of_decide_eq_true qq3
                      obtain ⟨ad444, e444, hx444_0⟩ := Kd.at_int HR2.out x23_2 p444 q444
                      cases e444
                      replace hx444_0 := (HB.out.cell (World.block_lt_of_cell? w _ hx444_0)).trans hx444_0
                      replace p444 := eq_true p444
                      replace q444 := eq_true q444
                      go_wp2
                      go_ret
                      exact ⟨qq11, qq1⟩
                    · rw [if_neg c14] at H
                      have c14b0 : decide ((l1.length : Int) ≤ (rd l2 x23_2)) = false := decide_eq_false c14
                      clear c14
                      have H' := Aside0.mk H
                      clear H
                      have p444 : 0 ≤ (x23_2 : Int) := of_decide_eq_true qq3
                      have q444 : x23_2 < (l2.length : Int) := of_decide_eq_true qq3
                      obtain ⟨ad444, e444, hx444_0⟩ := Kd.at_int HR2.out x23_2 p444 q444
                      cases e444
                      replace hx444_0 := (HB.out.cell (World.block_lt_of_cell? w _ hx444_0)).trans hx444_0
                      replace p444 := eq_true p444
                      replace q444 := eq_true q444
                      go_wp2
                      go_roundg k2
                      case measure => have := HJ3.out; have := HK2.out; omega
                      case rel => exact ⟨(rd l2 x23_2), (wrap64 (x23_2 + 1)), qq13, qq13, H', ⟨qq76 HJ3.out HK2.out⟩, ⟨qq1⟩⟩
                · rw [if_neg c12] at H
                  exact absurd H (by simp)
              · rw [if_neg c11] at H
                exact absurd H (by simp)
            · rw [if_neg c10] at H
              have c10b0 : decide (x23_2 < (l2.length : Int)) = false := decide_eq_false c10
              clear c10
              replace H := Option.bind_eq_some_iff.mp H
              obtain ⟨t445, A150, H⟩ := H
              replace H : ((impl_NetWhole.f k2 a0 t445).bind fun t448 => (some t448)) = some r := H
              have A15 := Aside0.mk A150
              clear A150
              replace H := Option.bind_eq_some_iff.mp H
              obtain ⟨t448, A160, H⟩ := H
              replace H : (some t448) = some r := H
              have A16 := Aside0.mk A160
              clear A160
              obtain rfl := Option.some.inj H
              go_wp2_with (first | ((with_reducible refine gate_callee (f := 27) rfl ?_); refine goesL_ (some 41) rfl rfl Try.func27 (by kernel_rfl) rfl #[.slice A1 l1.length c1, .slice A2 l2.length c2] rfl qq5 ?_; (with_reducible refine (impl_pick.calls k2 _ _ l1 _ _ l2 t445 _ ?side1 ?side2 ?side3 ?side4 A15.out).mono ?_); (case side1 => exact qq35); (case side2 => exact HC1.out); (case side3 => exact qq10 HR2.out HB.out); (case side4 => exact HC2.out); rintro e w17 ⟨v446, rfl, ho0, hb⟩; refine ⟨_, rfl, ?_⟩; have n0_ := Aside0.mk (Kd.R_lower ho0 (below_size qq1)); have n1_ := Aside0.mk (below_step qq1 hb); clear HB; have HO447 := n0_; have HB := n1_; clear n0_ n1_; (try clear hb); (try clear hb2); (try clear hk); (try clear hi); (try clear ho0); obtain ⟨Ao18, co18, eo18⟩ := Kd.R_slice HO447.out; subst eo18) | ((with_reducible refine gate_callee (f := 13) rfl ?_); refine goesL_ (some 42) rfl rfl Try.func13 (by kernel_rfl) rfl #[.int .i64 a0, .slice Ao18 t445.length co18] rfl qq5 ?_; (with_reducible refine (impl_NetWhole.calls k2 a0 _ _ t445 t448 _ ?side1 ?side2 A16.out).mono ?_); (case side1 => exact qq12 HO447.out); (case side2 => exact qq50 HO447.out); rintro e w19 ⟨rfl, hb⟩; refine ⟨_, rfl, ?_⟩; have n0_ := Aside0.mk (Kd.R_below (qq2 HO447.out) hb); have n1_ := Aside0.mk (below_step qq1 hb); clear HO447; clear HB; have HO447 := n0_; have HB := n1_; clear n0_ n1_; (try clear hb); (try clear hb2); (try clear hk); (try clear hi)))
              go_ret
              exact ⟨qq11, qq1⟩

end Go.Proofs.Ytmcfhmflncghiaa.Q
namespace Go.Proofs.Ytmcfhmflncghiaa.Q
open Go.RowKit Go.Proofs.YtmcfhmflncghiaaW.PrintWords Go.Proofs.YtmcfhmflncghiaaW.PrintLast Go.Proofs.YtmcfhmflncghiaaW.PrintMore
attribute [local go_sem] max2_int min2_int max_two min_two max_three min_three max_four min_four
set_option linter.unusedVariables false
set_option linter.unusedSimpArgs false

/-! ### impl_TreeHeights: function 11 -/
mutual
def impl_TreeHeights.l0 : Nat → List (S32) → List Int → List Int → List Bool → Int → Int → Option (List Int × Bool)
  | 0, _, _, _, _, _, _ => none
  | k + 1, x1, x2, x8, x9, x25, x26 => if x26 < x25 then ((impl_pick.f k x1 x2).bind fun t460 => (impl_TreeHeights.l1 k x1 x2 x8 x9 x25 x26 t460 (t460.length : Int) 0)) else (some (x8, true))
def impl_TreeHeights.l1 : Nat → List (S32) → List Int → List Int → List Bool → Int → Int → List (S32) → Int → Int → Option (List Int × Bool)
  | 0, _, _, _, _, _, _, _, _, _ => none
  | k + 1, x1, x2, x8, x9, x25, x26, x30, x31, x32 => if x32 < x31 then (if 0 ≤ x32 then (if x32 < (x30.length : Int) then (if 0 ≤ ((rd_T32 x30 x32).f0) then (if ((rd_T32 x30 x32).f0) < (x9.length : Int) then (if rdOf false x9 ((rd_T32 x30 x32).f0) = true then (if 0 ≤ ((rd_T32 x30 x32).f1) then (if ((rd_T32 x30 x32).f1) < (x9.length : Int) then (impl_TreeHeights.j2 k x1 x2 x8 x9 x25 x26 x30 x31 x32 (!(rdOf false x9 ((rd_T32 x30 x32).f1))) ((rd_T32 x30 x32).f0) ((rd_T32 x30 x32).f1) ((rd_T32 x30 x32).f2) ((rd_T32 x30 x32).f3)) else (none)) else (none)) else (impl_TreeHeights.j2 k x1 x2 x8 x9 x25 x26 x30 x31 x32 false ((rd_T32 x30 x32).f0) ((rd_T32 x30 x32).f1) ((rd_T32 x30 x32).f2) ((rd_T32 x30 x32).f3))) else (none)) else (none)) else (none)) else (none)) else (impl_TreeHeights.l0 k x1 x2 x8 x9 x25 (wrap64 (x26 + 1)))
def impl_TreeHeights.j2 : Nat → List (S32) → List Int → List Int → List Bool → Int → Int → List (S32) → Int → Int → Bool → Int → Int → Int → Int → Option (List Int × Bool)
  | 0, _, _, _, _, _, _, _, _, _, _, _, _, _, _ => none
  | k + 1, x1, x2, x8, x9, x25, x26, x30, x31, x32, x36, x465000, x465001, x465002, x465003 => if x36 = true then (if 0 ≤ x465000 then (if x465000 < (x8.length : Int) then (if 0 ≤ x465001 then (if x465001 < (x8.length : Int) then (if x465001 < (x9.length : Int) then (impl_TreeHeights.l1 k x1 x2 (x8.set (x465001 : Int).toNat (wrap64 ((rd x8 x465000) + x465002))) (x9.set (x465001 : Int).toNat true) x25 x26 x30 x31 (wrap64 (x32 + 1))) else (none)) else (none)) else (none)) else (none)) else (none)) else (if 0 ≤ x465001 then (if x465001 < (x9.length : Int) then (if rdOf false x9 x465001 = true then (if 0 ≤ x465000 then (if x465000 < (x9.length : Int) then (if rdOf false x9 x465000 = true then (impl_TreeHeights.l1 k x1 x2 x8 x9 x25 x26 x30 x31 (wrap64 (x32 + 1))) else (if x465001 < (x8.length : Int) then (if x465000 < (x8.length : Int) then (impl_TreeHeights.l1 k x1 x2 (x8.set (x465000 : Int).toNat (wrap64 ((rd x8 x465001) - x465002))) (x9.set (x465000 : Int).toNat true) x25 x26 x30 x31 (wrap64 (x32 + 1))) else (none)) else (none))) else (none)) else (none)) else (impl_TreeHeights.l1 k x1 x2 x8 x9 x25 x26 x30 x31 (wrap64 (x32 + 1)))) else (none)) else (none))
end
def impl_TreeHeights.f (k : Nat) (a0 : Int) (l1 : List (S32)) (l2 : List Int) : Option (List Int × Bool) := (impl_TreeIs.f k a0 l1 l2).bind fun t449 => (if t449 = true then (if 0 ≤ a0 then (if (a0 : Int).toNat ≤ 35184372088832 then (if (a0 : Int).toNat ≤ 281474976710656 then ((some (List.replicate (a0 : Int).toNat false : List Bool)).bind fun y456 => (if 0 < (y456.length : Int) then (impl_TreeHeights.l0 k l1 l2 (List.replicate (a0 : Int).toNat 0) (y456.set (0 : Int).toNat true) (l2.length : Int) 0) else (none))) else (none)) else (none)) else (none)) else (some ((([] : List Int)), false)))
def impl_TreeHeights.T12 : Bool × List (List Nat × List Nat) := (true, [([], []), ([], []), ([1], [1]), ([], []), ([], []), ([4], [4]), ([3, 5], [3, 5]), ([6], [6]), ([], []), ([8], [8]), ([7, 9], [7, 9]), ([0, 2, 0, 1, 2, 3, 4, 5, 6, 7, 8, 9, 10], [0, 2]), ([11, 10, 0, 1, 2, 3, 4, 5, 6, 7, 8, 9, 10], [10, 11])])
def impl_TreeHeights.B12 : List Nat := [0, 0, 2, 0, 0, 16, 56, 120, 0, 256, 1016, 2047, 4095]
theorem impl_TreeHeights.tab12 : rtab .any (opsOf Try.f11 12) = impl_TreeHeights.T12 := by kernel_rfl
theorem impl_TreeHeights.bits12 : waitsOk impl_TreeHeights.T12.2 impl_TreeHeights.B12 = true := by kernel_rfl
def impl_TreeHeights.T15 : Bool × List (List Nat × List Nat) := (true, [([], []), ([], []), ([1], [1]), ([], []), ([], []), ([4], [4]), ([3, 5], [3, 5]), ([6], [6]), ([], []), ([8], [8]), ([7, 9], [7, 9]), ([0, 2, 0, 1, 2, 3, 4, 5, 6, 7, 8, 9, 10], [0, 2]), ([11, 10, 0, 1, 2, 3, 4, 5, 6, 7, 8, 9, 10], [10, 11])])
def impl_TreeHeights.B15 : List Nat := [0, 0, 2, 0, 0, 16, 56, 120, 0, 256, 1016, 2047, 4095]
theorem impl_TreeHeights.tab15 : rtab .any (opsOf Try.f11 15) = impl_TreeHeights.T15 := by kernel_rfl
theorem impl_TreeHeights.bits15 : waitsOk impl_TreeHeights.T15.2 impl_TreeHeights.B15 = true := by kernel_rfl
set_option maxHeartbeats 8000000 in
set_option maxRecDepth 100000 in
theorem impl_TreeHeights.calls (k : Nat) (a0 : Int) (A1 : Option Addr) (c1 : Nat) (l1 : List (S32)) (A2 : Option Addr) (c2 : Nat) (l2 : List Int) (r1 : List Int) (r2 : Bool) (w : World) (hr1 : Kd.C k32 w A1 l1.length l1) (hc1 : l1.length ≤ c1) (hr2 : Kd.C (Kd.int .i64) w A2 l2.length l2) (hc2 : l2.length ≤ c2) (h : impl_TreeHeights.f k a0 l1 l2 = some (r1, r2)) :
    Calls Try.prog 11 #[.int .i64 a0, .slice A1 l1.length c1, .slice A2 l2.length c2] w fun e w' => ∃ v0_ : Value, e = .returned (.tuple #[v0_, .bool r2]) ∧ Kd.R (Kd.int .i64) 3 w' w.heap.size (fun _ => True) v0_ r1 ∧ Below w.heap.size w w' := by
  have hu32 := Try.underlying32
  have HR1 := Aside0.mk hr1
  have HC1 := Aside0.mk hc1
  clear hr1 hc1
  have HR2 := Aside0.mk hr2
  have HC2 := Aside0.mk hc2
  clear hr2 hc2
  have HB := Aside0.mk (Below.refl w.heap.size w)
  have H : ((impl_TreeIs.f k a0 l1 l2).bind fun t449 => (if t449 = true then (if 0 ≤ a0 then (if (a0 : Int).toNat ≤ 35184372088832 then (if (a0 : Int).toNat ≤ 281474976710656 then ((some (List.replicate (a0 : Int).toNat false : List Bool)).bind fun y456 => (if 0 < (y456.length : Int) then (impl_TreeHeights.l0 k l1 l2 (List.replicate (a0 : Int).toNat 0) (y456.set (0 : Int).toNat true) (l2.length : Int) 0) else (none))) else (none)) else (none)) else (none)) else (some ((([] : List Int)), false)))) = some (r1, r2) := h
  clear h
  replace H := Option.bind_eq_some_iff.mp H
  obtain ⟨t449, A40, H⟩ := H
  replace H : (if t449 = true then (if 0 ≤ a0 then (if (a0 : Int).toNat ≤ 35184372088832 then (if (a0 : Int).toNat ≤ 281474976710656 then ((some (List.replicate (a0 : Int).toNat false : List Bool)).bind fun y456 => (if 0 < (y456.length : Int) then (impl_TreeHeights.l0 k l1 l2 (List.replicate (a0 : Int).toNat 0) (y456.set (0 : Int).toNat true) (l2.length : Int) 0) else (none))) else (none)) else (none)) else (none)) else (some ((([] : List Int)), false))) = some (r1, r2) := H
  have A4 := Aside0.mk A40
  clear A40
  by_cases c5 : t449 = true
  · subst c5
    have H1 : (if 0 ≤ a0 then (if (a0 : Int).toNat ≤ 35184372088832 then (if (a0 : Int).toNat ≤ 281474976710656 then ((some (List.replicate (a0 : Int).toNat false : List Bool)).bind fun y456 => (if 0 < (y456.length : Int) then (impl_TreeHeights.l0 k l1 l2 (List.replicate (a0 : Int).toNat 0) (y456.set (0 : Int).toNat true) (l2.length : Int) 0) else (none))) else (none)) else (none)) else (none)) = some (r1, r2) := by rw [if_pos rfl] at H; exact H
    clear H
    have H := H1
    clear H1
    by_cases c6 : 0 ≤ a0
    · rw [if_pos c6] at H
      have c6b0 := eq_true c6
      have c6b1 : decide (0 ≤ a0) = true := decide_eq_true c6
      clear c6
      by_cases c7 : (a0 : Int).toNat ≤ 35184372088832
      · rw [if_pos c7] at H
        have c7b0 := eq_true c7
        have c7b1 : decide ((a0 : Int).toNat ≤ 35184372088832) = true := decide_eq_true c7
        clear c7
        obtain ⟨y453, hy453⟩ : ∃ y_ : List Int, y_ = (List.replicate (a0 : Int).toNat 0) := ⟨_, rfl⟩
        replace H : (if (a0 : Int).toNat ≤ 281474976710656 then ((some (List.replicate (a0 : Int).toNat false : List Bool)).bind fun y456 => (if 0 < (y456.length : Int) then (impl_TreeHeights.l0 k l1 l2 y453 (y456.set (0 : Int).toNat true) (l2.length : Int) 0) else (none))) else (none)) = some (r1, r2) := by first | (rw [hy453]; with_reducible exact H) | (have H2_ := (Option.bind_some _ _).symm.trans H; rw [hy453]; with_reducible exact H2_) | (have H2_ := (Option.bind_some _ _).symm.trans H; with_reducible exact H2_) | with_reducible exact H | (rw [hy453]; exact H) | exact H
        have Ny453 := Aside0.mk hy453
        clear hy453
        by_cases c8 : (a0 : Int).toNat ≤ 281474976710656
        · rw [if_pos c8] at H
          have c8b0 := eq_true c8
          have c8b1 : decide ((a0 : Int).toNat ≤ 281474976710656) = true := decide_eq_true c8
          clear c8
          obtain ⟨y456, hy456⟩ : ∃ y_ : List Bool, y_ = (List.replicate (a0 : Int).toNat false) := ⟨_, rfl⟩
          replace H : (if 0 < (y456.length : Int) then (impl_TreeHeights.l0 k l1 l2 y453 (y456.set (0 : Int).toNat true) (l2.length : Int) 0) else (none)) = some (r1, r2) := by first | (rw [hy456]; with_reducible exact H) | (have H2_ := (Option.bind_some _ _).symm.trans H; rw [hy456]; with_reducible exact H2_) | (have H2_ := (Option.bind_some _ _).symm.trans H; with_reducible exact H2_) | with_reducible exact H | (rw [hy456]; exact H) | exact H
          have Ny456 := Aside0.mk hy456
          clear hy456
          by_cases c9 : 0 < (y456.length : Int)
          · rw [if_pos c9] at H
            have c9b0 : decide (0 < (y456.length : Int)) = true := decide_eq_true c9
            have c9b1 : decide (0 < y456.length) = true := decide_eq_true (by omega)
            clear c9
            obtain ⟨y459, hy459⟩ : ∃ y_ : List Bool, y_ = (y456.set (0 : Int).toNat true) := ⟨_, rfl⟩
            replace H : (impl_TreeHeights.l0 k l1 l2 y453 y459 (l2.length : Int) 0) = some (r1, r2) := by first | (rw [hy459]; with_reducible exact H) | (have H2_ := (Option.bind_some _ _).symm.trans H; rw [hy459]; with_reducible exact H2_) | (have H2_ := (Option.bind_some _ _).symm.trans H; with_reducible exact H2_) | with_reducible exact H | (rw [hy459]; exact H) | exact H
            have Ny459 := Aside0.mk hy459
            clear hy459
            have H' := Aside0.mk H
            clear H
            go_enter Try.func11, Try.ntmps11
            go_wp2_with (first | ((with_reducible refine gate_callee (f := 28) rfl ?_); refine goesL_ (some 15) rfl rfl Try.func28 (by kernel_rfl) rfl #[.int .i64 a0, .slice A1 l1.length c1, .slice A2 l2.length c2] rfl qq5 ?_; (with_reducible refine (impl_TreeIs.calls k a0 _ _ l1 _ _ l2 true _ ?side1 ?side2 ?side3 ?side4 A4.out).mono ?_); (case side1 => exact qq15 HR1.out); (case side2 => exact HC1.out); (case side3 => exact qq15 HR2.out); (case side4 => exact HC2.out); rintro e w11 ⟨rfl, hb⟩; refine ⟨_, rfl, ?_⟩; have n0_ := Aside0.mk (below_step qq1 hb); clear HB; have HB := n0_; clear n0_; (try clear hb); (try clear hb2); (try clear hk); (try clear hi)) | ((with_reducible refine gate_dst (N := 19) rfl ?_); refine Kd.R_make (Kd.int .i64) _ 3 rfl (N := 19) rfl 27 _ _ rfl a0 rfl rfl Try.underlying27 (.int .i64 0) 8 info3 rfl (by decide) (by omega) 0 (ok := fun _ => True) (okp := fun _ => True) rfl (fun _ hk => hk) trivial (of_decide_eq_true qq3) (Nat.le_trans (Nat.mul_le_mul_right _ (of_decide_eq_true qq3 : a0.toNat ≤ 35184372088832)) (by omega)) (Below.refl _ _) (Nat.le_refl _) ?_; intro v454 w12 ho13 hb hg_ hnew_; clear hg_ hnew_; (first | rw [← Ny453.out] at ho13 | (simp only [Int.reduceToNat] at ho13; rw [← Ny453.out] at ho13)); have n0_ := Aside0.mk (Kd.R_lower ho13 (below_size qq1)); have n1_ := Aside0.mk (below_step qq1 hb); clear HB; have HO455 := n0_; have HB := n1_; clear n0_ n1_; clear hb ho13) | ((with_reducible refine gate_dst (N := 21) rfl ?_); refine Kd.R_make Kd.bool _ 4 rfl (N := 21) rfl 47 _ _ rfl a0 rfl rfl Try.underlying47 (.bool false) 1 info4 rfl (by decide) (by omega) false (ok := fun _ => True) (okp := fun _ => True) rfl (fun _ hk => hk) trivial (of_decide_eq_true qq3) (Nat.le_trans (Nat.mul_le_mul_right _ (of_decide_eq_true qq3 : a0.toNat ≤ 281474976710656)) (by omega)) (Below.refl _ _) (Nat.le_refl _) ?_; intro v457 w14 ho15 hb hg_ hnew_; clear hg_ hnew_; (first | rw [← Ny456.out] at ho15 | (simp only [Int.reduceToNat] at ho15; rw [← Ny456.out] at ho15)); have n0_ := Aside0.mk (Kd.R_below (qq2 HO455.out) hb); have n1_ := Aside0.mk (Kd.R_lower ho15 (below_size qq1)); have n2_ := Aside0.mk (below_step qq1 hb); clear HO455; clear HB; have HO455 := n0_; have HO458 := n1_; have HB := n2_; clear n0_ n1_ n2_; clear hb ho15; have p10 : 0 ≤ (0 : Int) := (by omega); have q10 : (0 : Int) < ((y456.length : Int) : Int) := of_decide_eq_true qq3; have qi10 : (0 < y456.length) = True := eq_true (by omega); obtain ⟨go10, co10, eo10, gb10, gl10, cl10, HG10⟩ := Kd.R_form HO458.out (by omega); (first | cases eo10 | (injection eo10 with ea_ en_ ec_; (first | subst ea_ | (injection ea_ with ea_; subst ea_)); subst ec_; clear en_)); have GB10 := Aside0.mk gb10; have GG10 := Aside0.mk HG10; clear gb10 gl10 HG10; obtain ⟨hx10_0, hf10_0⟩ := Kd.R_celln false HO458.out (0 : Int) p10 q10; (try rw [show ((0 : Int)).toNat = 0 from rfl] at hx10_0); (try simp only [Nat.reduceMul, Nat.zero_mul, Nat.zero_add, Nat.reduceAdd] at hx10_0); (try rw [show ((0 : Int)).toNat = 0 from rfl] at hf10_0); (try simp only [Nat.reduceMul, Nat.zero_mul, Nat.zero_add, Nat.reduceAdd] at hf10_0); replace p10 := eq_true p10; replace q10 := eq_true q10; obtain ⟨hy16_, hz16_⟩ := Kd.R_celln false HO458.out (0 : Int) (by omega) (of_decide_eq_true qq3); (try simp only [Int.reduceToNat, Int.toNat_zero, Int.toNat_ofNat, Nat.reduceMul, Nat.zero_mul, Nat.zero_add] at hy16_ hz16_); (try rw [show ((0 : Int)).toNat = 0 from rfl] at hy16_); (try rw [show ((0 : Int)).toNat = 0 from rfl] at hz16_); have HP16 := Kd.R_putg HO458.out (0 : Int) true) | ((with_reducible refine gate_store (t := 4) (p := 23) rfl ?_); refine store_event (t := 4) (p := 23) (v := ?vo_w17) (w1 := (w14.setCell ⟨go10, (0 : Int).toNat, none⟩ (.bool true))) ?hg ?ho ?hn ?hr ?_; (case ho => rfl); (case hg => rfl); (case hn => rfl); (case hr => exact qq16); intro w17 hw; have hg : w14.grownBy w17 (some go10) := (by rw [hw]; exact HP16.2); have hp_ : Kd.R Kd.bool 4 w17 w.heap.size (fun _ => True) (.slice (some ⟨go10, 0, none⟩) y456.length co10) y459 := (by rw [hw, Ny459.out]; exact HP16.1); clear HP16; have n0_ := Aside0.mk (Kd.R_over' (v := (.slice (some ⟨go10, 0, none⟩) y456.length co10)) (qq2 HO455.out) (Kd.R_typed HO458.out) (by decide) hg); have n1_ := Aside0.mk (hp_); have n2_ := Aside0.mk ((qq81 : Below w.heap.size w w17)); clear HO455; clear HO458; clear HB; have HO455 := n0_; have HO458 := n1_; have HB := n2_; clear n0_ n1_ n2_; clear hg hw hp_))
            go_loopg [26] k (fun kq v26 w' => ∃ (x8_1 : List Int) (x9_1 : List Bool) (x26_1 : Int), v26 = .int .i64 x26_1 ∧ Aside0 (impl_TreeHeights.l0 kq l1 l2 x8_1 x9_1 (l2.length : Int) x26_1 = some (r1, r2)) ∧ Aside0 (kq ≤ k) ∧ Aside0 (Kd.R (Kd.int .i64) 3 w' w.heap.size (fun _ => True) v454 x8_1) ∧ Aside0 (Kd.R Kd.bool 4 w' w.heap.size (fun _ => True) (.slice (some ⟨go10, 0, none⟩) y456.length co10) x9_1) ∧ Aside0 (Below w.heap.size w w'))
            case atStart => exact ⟨(y453), (y459), (0), qq13, H', ⟨Nat.le_refl _⟩, ⟨qq2 HO455.out⟩, ⟨qq2 HO458.out⟩, ⟨qq1⟩⟩
            case round =>
              clear H'
              try clear c1
              try clear p1
              try clear q1
              try clear hx1
              try clear qi1
              try clear c2
              try clear p2
              try clear c5
              try clear c6
              try clear c6b0
              try clear c6b1
              try clear c7
              try clear c7b0
              try clear c7b1
              try clear c8
              try clear c8b0
              try clear c8b1
              try clear c9
              try clear c9b0
              try clear c9b1
              try clear p10
              try clear q10
              try clear hx10
              try clear qi10
              try clear hf10
              try clear c11
              try clear hx10_0
              try clear p10
              try clear q10
              obtain ⟨x8_1, x9_1, x26_1, rfl, HA, HK1, HO_8, HO_9, HB⟩ := hrel
              have hl9_1 := (Kd.R_reads' HO_9.out).1
              rw [hl9_1] at HO_9
              (try simp only [hl9_1])
              (try simp only [hl9_1] at HO_8)
              cases gk with
              | zero => exact absurd HA.out (by simp [impl_TreeHeights.l0])
              | succ k1 =>
                have H := HA.out
                clear HA
                simp only [impl_TreeHeights.l0] at H
                by_cases c18 : x26_1 < (l2.length : Int)
                · rw [if_pos c18] at H
                  have c18b0 : decide (x26_1 < (l2.length : Int)) = true := decide_eq_true c18
                  clear c18
                  replace H := Option.bind_eq_some_iff.mp H
                  obtain ⟨t460, A190, H⟩ := H
                  replace H : (impl_TreeHeights.l1 k1 l1 l2 x8_1 x9_1 (l2.length : Int) x26_1 t460 (t460.length : Int) 0) = some (r1, r2) := H
                  have A19 := Aside0.mk A190
                  clear A190
                  have H' := Aside0.mk H
                  clear H
                  go_wp2_with (first | ((with_reducible refine gate_callee (f := 27) rfl ?_); refine goesL_ (some 30) rfl rfl Try.func27 (by kernel_rfl) rfl #[.slice A1 l1.length c1, .slice A2 l2.length c2] rfl qq5 ?_; (with_reducible refine (impl_pick.calls k1 _ _ l1 _ _ l2 t460 _ ?side1 ?side2 ?side3 ?side4 A19.out).mono ?_); (case side1 => exact qq35); (case side2 => exact HC1.out); (case side3 => exact qq10 HR2.out HB.out); (case side4 => exact HC2.out); rintro e w20 ⟨v461, rfl, ho0, hb⟩; refine ⟨_, rfl, ?_⟩; have n0_ := Aside0.mk (Kd.R_below (qq2 HO_8.out) hb); have n1_ := Aside0.mk (Kd.R_below (qq2 HO_9.out) hb); have n2_ := Aside0.mk (Kd.R_lower ho0 (below_size qq1)); have n3_ := Aside0.mk (below_step qq1 hb); clear HO_8; clear HO_9; clear HB; have HO_8 := n0_; have HO_9 := n1_; have HO462 := n2_; have HB := n3_; clear n0_ n1_ n2_ n3_; (try clear hb); (try clear hb2); (try clear hk); (try clear hi); (try clear ho0); obtain ⟨Ao21, co21, eo21⟩ := Kd.R_slice HO462.out; subst eo21))
                  go_loopg [32] k1 (fun kq v32 w' => ∃ (x8_2 : List Int) (x9_2 : List Bool) (x32_2 : Int), v32 = .int .i64 x32_2 ∧ Aside0 (impl_TreeHeights.l1 kq l1 l2 x8_2 x9_2 (l2.length : Int) x26_1 t460 (t460.length : Int) x32_2 = some (r1, r2)) ∧ Aside0 (kq ≤ k1) ∧ Aside0 (Kd.R (Kd.int .i64) 3 w' w.heap.size (fun _ => True) v454 x8_2) ∧ Aside0 (Kd.R Kd.bool 4 w' w.heap.size (fun _ => True) (.slice (some ⟨go10, 0, none⟩) x9_1.length co10) x9_2) ∧ Aside0 (Kd.R k32 32 w' w.heap.size (fun _ => True) (.slice Ao21 t460.length co21) t460) ∧ Aside0 (Below w.heap.size w w'))
                  case atStart => exact ⟨(x8_1), (x9_1), (0), qq13, H', ⟨Nat.le_refl _⟩, ⟨qq64 HO_8.out⟩, ⟨qq64 HO_9.out⟩, ⟨qq64 HO462.out⟩, ⟨qq1⟩⟩
                  case round =>
                    clear H'
                    try clear c1
                    try clear p1
                    try clear q1
                    try clear hx1
                    try clear qi1
                    try clear c2
                    try clear p2
                    try clear c5
                    try clear c6
                    try clear c6b0
                    try clear c6b1
                    try clear c7
                    try clear c7b0
                    try clear c7b1
                    try clear c8
                    try clear c8b0
                    try clear c8b1
                    try clear c9
                    try clear c9b0
                    try clear c9b1
                    try clear p10
                    try clear q10
                    try clear hx10
                    try clear qi10
                    try clear hf10
                    try clear c11
                    try clear c18
                    try clear c18b0
                    try clear hx10_0
                    try clear p1
                    try clear p10
                    try clear p2
                    try clear q1
                    try clear q10
                    obtain ⟨x8_2, x9_2, x32_2, rfl, HA, HK2, HO_8, HO_9, HO_30, HB⟩ := hrel
                    have hl9_2 := (Kd.R_reads' HO_9.out).1
                    rw [hl9_2] at HO_9
                    (try simp only [hl9_2])
                    (try simp only [hl9_2] at HO_8)
                    (try simp only [hl9_2] at HO_30)
                    cases gk with
                    | zero => exact absurd HA.out (by simp [impl_TreeHeights.l1])
                    | succ k2 =>
                      have H := HA.out
                      clear HA
                      simp only [impl_TreeHeights.l1] at H
                      by_cases c22 : x32_2 < (t460.length : Int)
                      · rw [if_pos c22] at H
                        have c22b0 : decide (x32_2 < (t460.length : Int)) = true := decide_eq_true c22
                        clear c22
                        by_cases c23 : 0 ≤ x32_2
                        · rw [if_pos c23] at H
                          have c23b0 : decide (0 ≤ x32_2) = true := decide_eq_true c23
                          clear c23
                          by_cases c24 : x32_2 < (t460.length : Int)
                          · rw [if_pos c24] at H
                            have c24b0 : decide (x32_2 < (t460.length : Int)) = true := decide_eq_true c24
                            clear c24
                            have HC25 := Aside0.mk H
                            clear H
                            have p463 : 0 ≤ (x32_2 : Int) := of_decide_eq_true qq3
                            have q463 : x32_2 < (t460.length : Int) := of_decide_eq_true qq3
                            obtain ⟨ad463, e463, hx463_0, hx463_1, hx463_2, hx463_3⟩ := at_T32 (Kd.R_reads' HO_30.out).2.2 x32_2 p463 q463
                            cases e463
                            replace p463 := eq_true p463
                            replace q463 := eq_true q463
                            go_upto_region 11 with (first | ((with_reducible refine gate_dst (N := 11) rfl ?_); refine box_event ?hg (N := 11) ?hd (cs := #[.int .i64 0, .int .i64 0, .int .i64 0, .int .i64 0]) (t := 32) ?hr ?_; (case hd => rfl); (case hg => rfl); (case hr => exact qq16); intro gb464 hg w26 hbox hb; have n0_ := Aside0.mk (Kd.R_below (qq2 HO_8.out) hb); have n1_ := Aside0.mk (Kd.R_below (qq2 HO_9.out) hb); have n2_ := Aside0.mk (Kd.R_below (Kd.R_elderB (qq2 HO_30.out) gb464 (Nat.le_of_eq hg.symm)) hb); have n3_ := Aside0.mk (below_step qq1 hb); have n4_ := Aside0.mk (hbox); have n5_ := Aside0.mk ((qq33 : w.heap.size ≤ gb464)); have n6_ := Aside0.mk ((qq33 : w.heap.size ≤ gb464)); clear HO_8; clear HO_9; clear HO_30; clear HB; have HO_8 := n0_; have HO_9 := n1_; have HO_30 := n2_; have HB := n3_; have BK464 := n4_; have GW464 := n5_; have GE464 := n6_; clear n0_ n1_ n2_ n3_ n4_ n5_ n6_; clear hb hbox hg; have hcz27_0 : w26.cell? ⟨gb464, 0, none⟩ = some (.int .i64 0) := (blk_cell BK464.out 0).trans rfl; have hcz27_1 : w26.cell? ⟨gb464, 1, none⟩ = some (.int .i64 0) := (blk_cell BK464.out 1).trans rfl; have hcz27_2 : w26.cell? ⟨gb464, 2, none⟩ = some (.int .i64 0) := (blk_cell BK464.out 2).trans rfl; have hcz27_3 : w26.cell? ⟨gb464, 3, none⟩ = some (.int .i64 0) := (blk_cell BK464.out 3).trans rfl; have hfz27_0 := blk_frozen BK464.out 0; have hfz27_1 := blk_frozen BK464.out 1; have hfz27_2 := blk_frozen BK464.out 2; have hfz27_3 := blk_frozen BK464.out 3))
                            (try simp only [Act.put, List.setIfInBounds_toArray, List.set_cons_zero, List.set_cons_succ])
                            go_cut [36] (fun v36 wc => ∃ (kq : Nat) (x36_24 : Bool), v36 = .bool x36_24 ∧ Aside0 (impl_TreeHeights.j2 kq l1 l2 x8_2 x9_2 (l2.length : Int) x26_1 t460 (t460.length : Int) x32_2 x36_24 ((rd_T32 t460 x32_2).f0) ((rd_T32 t460 x32_2).f1) ((rd_T32 t460 x32_2).f2) ((rd_T32 t460 x32_2).f3) = some (r1, r2)) ∧ Aside0 (kq ≤ k2) ∧ Aside0 (Kd.R (Kd.int .i64) 3 wc w.heap.size (fun _ => True) v454 x8_2) ∧ Aside0 (Kd.R Kd.bool 4 wc w.heap.size (fun _ => True) (.slice (some ⟨go10, 0, none⟩) x9_2.length co10) x9_2) ∧ Aside0 (Kd.R k32 32 wc w.heap.size (fun k_ => k_ ≠ gb464) (.slice (some ad463) t460.length co21) t460) ∧ Aside0 (wc.heap[gb464]? = some (.cells #[.int .i64 ((rd_T32 t460 x32_2).f0), .int .i64 ((rd_T32 t460 x32_2).f1), .int .i64 ((rd_T32 t460 x32_2).f2), .int .i64 ((rd_T32 t460 x32_2).f3)] 32 (0, 0))) ∧ Aside0 (Below w.heap.size w wc))
                            case first =>
                              have H := HC25.out
                              clear HC25
                              by_cases c28 : 0 ≤ ((rd_T32 t460 x32_2).f0)
                              · rw [if_pos c28] at H
                                have c28b0 : decide (0 ≤ ((rd_T32 t460 x32_2).f0)) = true := decide_eq_true c28
                                clear c28
                                (first | rw [c28b0] | (simp only [i64_w, i32_w]; rw [c28b0]) | skip)
                                by_cases c29 : ((rd_T32 t460 x32_2).f0) < (x9_2.length : Int)
                                · rw [if_pos c29] at H
                                  have c29b0 : decide (((rd_T32 t460 x32_2).f0) < (x9_2.length : Int)) = true := decide_eq_true c29
                                  clear c29
                                  obtain ⟨bq30, hbq30⟩ : ∃ b_ : Bool, b_ = (rdOf false x9_2 ((rd_T32 t460 x32_2).f0)) := ⟨_, rfl⟩
                                  replace H : (if bq30 = true then (if 0 ≤ ((rd_T32 t460 x32_2).f1) then (if ((rd_T32 t460 x32_2).f1) < (x9_2.length : Int) then (impl_TreeHeights.j2 k2 l1 l2 x8_2 x9_2 (l2.length : Int) x26_1 t460 (t460.length : Int) x32_2 (!(rdOf false x9_2 ((rd_T32 t460 x32_2).f1))) ((rd_T32 t460 x32_2).f0) ((rd_T32 t460 x32_2).f1) ((rd_T32 t460 x32_2).f2) ((rd_T32 t460 x32_2).f3)) else (none)) else (none)) else (impl_TreeHeights.j2 k2 l1 l2 x8_2 x9_2 (l2.length : Int) x26_1 t460 (t460.length : Int) x32_2 false ((rd_T32 t460 x32_2).f0) ((rd_T32 t460 x32_2).f1) ((rd_T32 t460 x32_2).f2) ((rd_T32 t460 x32_2).f3))) = some (r1, r2) := by rw [← hbq30] at H; exact H
                                  have Nbq30 := Aside0.mk hbq30
                                  clear hbq30
                                  by_cases c31 : bq30 = true
                                  · subst c31
                                    have H1 : (if 0 ≤ ((rd_T32 t460 x32_2).f1) then (if ((rd_T32 t460 x32_2).f1) < (x9_2.length : Int) then (impl_TreeHeights.j2 k2 l1 l2 x8_2 x9_2 (l2.length : Int) x26_1 t460 (t460.length : Int) x32_2 (!(rdOf false x9_2 ((rd_T32 t460 x32_2).f1))) ((rd_T32 t460 x32_2).f0) ((rd_T32 t460 x32_2).f1) ((rd_T32 t460 x32_2).f2) ((rd_T32 t460 x32_2).f3)) else (none)) else (none)) = some (r1, r2) := by rw [if_pos rfl] at H; exact H
                                    clear H
                                    have H := H1
                                    clear H1
                                    by_cases c32 : 0 ≤ ((rd_T32 t460 x32_2).f1)
                                    · rw [if_pos c32] at H
                                      have c32b0 : decide (0 ≤ ((rd_T32 t460 x32_2).f1)) = true := decide_eq_true c32
                                      clear c32
                                      by_cases c33 : ((rd_T32 t460 x32_2).f1) < (x9_2.length : Int)
                                      · rw [if_pos c33] at H
                                        have c33b0 : decide (((rd_T32 t460 x32_2).f1) < (x9_2.length : Int)) = true := decide_eq_true c33
                                        clear c33
                                        have H' := Aside0.mk H
                                        clear H
                                        have hcz34_0 : w26.cell? ⟨gb464, 0, none⟩ = some (.int .i64 0) := (blk_cell BK464.out 0).trans rfl
                                        have hcz34_1 : w26.cell? ⟨gb464, 1, none⟩ = some (.int .i64 0) := (blk_cell BK464.out 1).trans rfl
                                        have hcz34_2 : w26.cell? ⟨gb464, 2, none⟩ = some (.int .i64 0) := (blk_cell BK464.out 2).trans rfl
                                        have hcz34_3 : w26.cell? ⟨gb464, 3, none⟩ = some (.int .i64 0) := (blk_cell BK464.out 3).trans rfl
                                        have hfz34_0 := blk_frozen BK464.out 0
                                        have hfz34_1 := blk_frozen BK464.out 1
                                        have hfz34_2 := blk_frozen BK464.out 2
                                        have hfz34_3 := blk_frozen BK464.out 3
                                        have p465 : 0 ≤ (((rd_T32 t460 x32_2).f0) : Int) := of_decide_eq_true qq3
                                        have q465 : ((rd_T32 t460 x32_2).f0) < (x9_2.length : Int) := of_decide_eq_true qq3
                                        obtain ⟨ad465, e465, hx465_0⟩ := Kd.at_bool (Kd.R_reads' HO_9.out).2.2 ((rd_T32 t460 x32_2).f0) p465 q465
                                        (try rw [← Nbq30.out] at hx465_0)
                                        obtain rfl : (⟨go10, 0, none⟩ : Addr) = ad465 := (by injection e465)
                                        (first | simp only [add_plain] at hx465_0 | simp only [add_at] at hx465_0 | simp only [Addr.add, Nat.zero_add] at hx465_0 | skip)
                                        have hn465_0 : (⟨go10, 0, none⟩ : Addr).block ≠ gb464 := Kd.own_blk (Kd.R_ne HO_9.out BK464.out (by decide))
                                        have hn465_1 : (⟨go10, 0, none⟩ : Addr).block ≠ gb464 := Kd.own_blk (Kd.R_ne HO_9.out BK464.out (by decide))
                                        have hn465_2 : (⟨go10, 0, none⟩ : Addr).block ≠ gb464 := Kd.own_blk (Kd.R_ne HO_9.out BK464.out (by decide))
                                        have hn465_3 : (⟨go10, 0, none⟩ : Addr).block ≠ gb464 := Kd.own_blk (Kd.R_ne HO_9.out BK464.out (by decide))
                                        replace hx465_0 := (cell_far (p := ⟨gb464, 0, none⟩) qq70 (.int .i64 ((rd_T32 t460 x32_2).f0))).trans hx465_0
                                        replace hx465_0 := (cell_far (p := ⟨gb464, 1, none⟩) qq71 (.int .i64 ((rd_T32 t460 x32_2).f1))).trans hx465_0
                                        replace hx465_0 := (cell_far (p := ⟨gb464, 2, none⟩) qq72 (.int .i64 ((rd_T32 t460 x32_2).f2))).trans hx465_0
                                        replace hx465_0 := (cell_far (p := ⟨gb464, 3, none⟩) qq73 (.int .i64 ((rd_T32 t460 x32_2).f3))).trans hx465_0
                                        clear hn465_0
                                        clear hn465_1
                                        clear hn465_2
                                        clear hn465_3
                                        replace p465 := eq_true p465
                                        replace q465 := eq_true q465
                                        have p466 : 0 ≤ (((rd_T32 t460 x32_2).f1) : Int) := of_decide_eq_true qq3
                                        have q466 : ((rd_T32 t460 x32_2).f1) < (x9_2.length : Int) := of_decide_eq_true qq3
                                        obtain ⟨ad466, e466, hx466_0⟩ := Kd.at_bool (Kd.R_reads' HO_9.out).2.2 ((rd_T32 t460 x32_2).f1) p466 q466
                                        (try rw [← Nbq30.out] at hx466_0)
                                        obtain rfl : (⟨go10, 0, none⟩ : Addr) = ad466 := (by injection e466)
                                        (first | simp only [add_plain] at hx466_0 | simp only [add_at] at hx466_0 | simp only [Addr.add, Nat.zero_add] at hx466_0 | skip)
                                        have hn466_0 : (⟨go10, 0, none⟩ : Addr).block ≠ gb464 := Kd.own_blk (Kd.R_ne HO_9.out BK464.out (by decide))
                                        have hn466_1 : (⟨go10, 0, none⟩ : Addr).block ≠ gb464 := Kd.own_blk (Kd.R_ne HO_9.out BK464.out (by decide))
                                        have hn466_2 : (⟨go10, 0, none⟩ : Addr).block ≠ gb464 := Kd.own_blk (Kd.R_ne HO_9.out BK464.out (by decide))
                                        have hn466_3 : (⟨go10, 0, none⟩ : Addr).block ≠ gb464 := Kd.own_blk (Kd.R_ne HO_9.out BK464.out (by decide))
                                        replace hx466_0 := (cell_far (p := ⟨gb464, 0, none⟩) (by first | (rw [add_block]; exact hn466_0) | (show (Addr.add _ _).block ≠ _; rw [add_block]; exact hn466_0) | exact hn466_0) (.int .i64 ((rd_T32 t460 x32_2).f0))).trans hx466_0
                                        replace hx466_0 := (cell_far (p := ⟨gb464, 1, none⟩) (by first | (rw [add_block]; exact hn466_1) | (show (Addr.add _ _).block ≠ _; rw [add_block]; exact hn466_1) | exact hn466_1) (.int .i64 ((rd_T32 t460 x32_2).f1))).trans hx466_0
                                        replace hx466_0 := (cell_far (p := ⟨gb464, 2, none⟩) (by first | (rw [add_block]; exact hn466_2) | (show (Addr.add _ _).block ≠ _; rw [add_block]; exact hn466_2) | exact hn466_2) (.int .i64 ((rd_T32 t460 x32_2).f2))).trans hx466_0
                                        replace hx466_0 := (cell_far (p := ⟨gb464, 3, none⟩) (by first | (rw [add_block]; exact hn466_3) | (show (Addr.add _ _).block ≠ _; rw [add_block]; exact hn466_3) | exact hn466_3) (.int .i64 ((rd_T32 t460 x32_2).f3))).trans hx466_0
                                        clear hn466_0
                                        clear hn466_1
                                        clear hn466_2
                                        clear hn466_3
                                        replace p466 := eq_true p466
                                        replace q466 := eq_true q466
                                        go_wp2
                                        go_meet
                                        case rel => exact ⟨_, (!(rdOf false x9_2 ((rd_T32 t460 x32_2).f1))), qq13, H', ⟨qq52 HK1.out HK2.out⟩, ⟨qq22 HO_8.out BK464.out⟩, ⟨qq22 HO_9.out BK464.out⟩, ⟨qq36⟩, ⟨qq28⟩, ⟨qq4 HB.out GE464.out⟩⟩
                                      · rw [if_neg c33] at H
                                        exact absurd H (by simp)
                                    · rw [if_neg c32] at H
                                      exact absurd H (by simp)
                                  · replace c31 := Bool.eq_false_iff.mpr c31
                                    subst c31
                                    have H1 : (impl_TreeHeights.j2 k2 l1 l2 x8_2 x9_2 (l2.length : Int) x26_1 t460 (t460.length : Int) x32_2 false ((rd_T32 t460 x32_2).f0) ((rd_T32 t460 x32_2).f1) ((rd_T32 t460 x32_2).f2) ((rd_T32 t460 x32_2).f3)) = some (r1, r2) := by rw [if_neg (show ¬ (false = true) by decide)] at H; exact H
                                    clear H
                                    have H := H1
                                    clear H1
                                    have H' := Aside0.mk H
                                    clear H
                                    have hcz35_0 : w26.cell? ⟨gb464, 0, none⟩ = some (.int .i64 0) := (blk_cell BK464.out 0).trans rfl
                                    have hcz35_1 : w26.cell? ⟨gb464, 1, none⟩ = some (.int .i64 0) := (blk_cell BK464.out 1).trans rfl
                                    have hcz35_2 : w26.cell? ⟨gb464, 2, none⟩ = some (.int .i64 0) := (blk_cell BK464.out 2).trans rfl
                                    have hcz35_3 : w26.cell? ⟨gb464, 3, none⟩ = some (.int .i64 0) := (blk_cell BK464.out 3).trans rfl
                                    have hfz35_0 := blk_frozen BK464.out 0
                                    have hfz35_1 := blk_frozen BK464.out 1
                                    have hfz35_2 := blk_frozen BK464.out 2
                                    have hfz35_3 := blk_frozen BK464.out 3
                                    have p465 : 0 ≤ (((rd_T32 t460 x32_2).f0) : Int) := of_decide_eq_true qq3
                                    have q465 : ((rd_T32 t460 x32_2).f0) < (x9_2.length : Int) := of_decide_eq_true qq3
                                    obtain ⟨ad465, e465, hx465_0⟩ := Kd.at_bool (Kd.R_reads' HO_9.out).2.2 ((rd_T32 t460 x32_2).f0) p465 q465
                                    (try rw [← Nbq30.out] at hx465_0)
                                    obtain rfl : (⟨go10, 0, none⟩ : Addr) = ad465 := (by injection e465)
                                    (first | simp only [add_plain] at hx465_0 | simp only [add_at] at hx465_0 | simp only [Addr.add, Nat.zero_add] at hx465_0 | skip)
                                    have hn465_0 : (⟨go10, 0, none⟩ : Addr).block ≠ gb464 := Kd.own_blk (Kd.R_ne HO_9.out BK464.out (by decide))
                                    have hn465_1 : (⟨go10, 0, none⟩ : Addr).block ≠ gb464 := Kd.own_blk (Kd.R_ne HO_9.out BK464.out (by decide))
                                    have hn465_2 : (⟨go10, 0, none⟩ : Addr).block ≠ gb464 := Kd.own_blk (Kd.R_ne HO_9.out BK464.out (by decide))
                                    have hn465_3 : (⟨go10, 0, none⟩ : Addr).block ≠ gb464 := Kd.own_blk (Kd.R_ne HO_9.out BK464.out (by decide))
                                    replace hx465_0 := (cell_far (p := ⟨gb464, 0, none⟩) qq70 (.int .i64 ((rd_T32 t460 x32_2).f0))).trans hx465_0
                                    replace hx465_0 := (cell_far (p := ⟨gb464, 1, none⟩) qq71 (.int .i64 ((rd_T32 t460 x32_2).f1))).trans hx465_0
                                    replace hx465_0 := (cell_far (p := ⟨gb464, 2, none⟩) qq72 (.int .i64 ((rd_T32 t460 x32_2).f2))).trans hx465_0
                                    replace hx465_0 := (cell_far (p := ⟨gb464, 3, none⟩) qq73 (.int .i64 ((rd_T32 t460 x32_2).f3))).trans hx465_0
                                    clear hn465_0
                                    clear hn465_1
                                    clear hn465_2
                                    clear hn465_3
                                    replace p465 := eq_true p465
                                    replace q465 := eq_true q465
                                    go_wp2
                                    go_meet
                                    case rel => exact ⟨_, (false), qq13, H', ⟨qq52 HK1.out HK2.out⟩, ⟨qq22 HO_8.out BK464.out⟩, ⟨qq22 HO_9.out BK464.out⟩, ⟨qq36⟩, ⟨qq28⟩, ⟨qq4 HB.out GE464.out⟩⟩
                                · rw [if_neg c29] at H
                                  exact absurd H (by simp)
                              · rw [if_neg c28] at H
                                exact absurd H (by simp)
                            case rest =>
                              clear HC25
                              try clear c1
                              try clear p1
                              try clear q1
                              try clear hx1
                              try clear qi1
                              try clear c2
                              try clear p2
                              try clear c3
                              try clear q3
                              try clear p4
                              try clear q4
                              try clear hx4
                              try clear c5
                              try clear c6
                              try clear c6b0
                              try clear c6b1
                              try clear c7
                              try clear c7b0
                              try clear c7b1
                              try clear c8
                              try clear c8b0
                              try clear c8b1
                              try clear c9
                              try clear c9b0
                              try clear c9b1
                              try clear p10
                              try clear q10
                              try clear hx10
                              try clear qi10
                              try clear hf10
                              try clear c11
                              try clear c18
                              try clear c18b0
                              try clear c22
                              try clear c22b0
                              try clear c23
                              try clear c23b0
                              try clear c24
                              try clear c24b0
                              try clear c27
                              try clear c28
                              try clear c28b0
                              try clear c29
                              try clear c29b0
                              try clear q30
                              try clear c31
                              try clear c32
                              try clear c32b0
                              try clear c33
                              try clear c33b0
                              try clear hcz27_0
                              try clear hcz27_1
                              try clear hcz27_2
                              try clear hcz27_3
                              try clear hcz34_0
                              try clear hcz34_1
                              try clear hcz34_2
                              try clear hcz34_3
                              try clear hcz35_0
                              try clear hcz35_1
                              try clear hcz35_2
                              try clear hcz35_3
                              try clear hfz27_0
                              try clear hfz27_1
                              try clear hfz27_2
                              try clear hfz27_3
                              try clear hfz34_0
                              try clear hfz34_1
                              try clear hfz34_2
                              try clear hfz34_3
                              try clear hfz35_0
                              try clear hfz35_1
                              try clear hfz35_2
                              try clear hfz35_3
                              try clear hx10_0
                              try clear hx463_0
                              try clear hx463_1
                              try clear hx463_2
                              try clear hx463_3
                              try clear hx465_0
                              try clear hx466_0
                              try clear p1
                              try clear p10
                              try clear p2
                              try clear p463
                              try clear p465
                              try clear p466
                              try clear q1
                              try clear q10
                              try clear q463
                              try clear q465
                              try clear q466
                              obtain ⟨kq, x36_24, rfl, HA, HJ24, HO_8, HO_9, HO_30, BK464, HB⟩ := hcut
                              cases kq with
                              | zero => exact absurd HA.out (by simp [impl_TreeHeights.j2])
                              | succ kj24 =>
                                have H := HA.out
                                clear HA
                                simp only [impl_TreeHeights.j2] at H
                                by_cases c36 : x36_24 = true
                                · subst c36
                                  have H1 : (if 0 ≤ ((rd_T32 t460 x32_2).f0) then (if ((rd_T32 t460 x32_2).f0) < (x8_2.length : Int) then (if 0 ≤ ((rd_T32 t460 x32_2).f1) then (if ((rd_T32 t460 x32_2).f1) < (x8_2.length : Int) then (if ((rd_T32 t460 x32_2).f1) < (x9_2.length : Int) then (impl_TreeHeights.l1 kj24 l1 l2 (x8_2.set (((rd_T32 t460 x32_2).f1) : Int).toNat (wrap64 ((rd x8_2 ((rd_T32 t460 x32_2).f0)) + ((rd_T32 t460 x32_2).f2)))) (x9_2.set (((rd_T32 t460 x32_2).f1) : Int).toNat true) (l2.length : Int) x26_1 t460 (t460.length : Int) (wrap64 (x32_2 + 1))) else (none)) else (none)) else (none)) else (none)) else (none)) = some (r1, r2) := by rw [if_pos rfl] at H; exact H
                                  clear H
                                  have H := H1
                                  clear H1
                                  by_cases c37 : 0 ≤ ((rd_T32 t460 x32_2).f0)
                                  · rw [if_pos c37] at H
                                    have c37b0 : decide (0 ≤ ((rd_T32 t460 x32_2).f0)) = true := decide_eq_true c37
                                    clear c37
                                    by_cases c38 : ((rd_T32 t460 x32_2).f0) < (x8_2.length : Int)
                                    · rw [if_pos c38] at H
                                      have c38b0 : decide (((rd_T32 t460 x32_2).f0) < (x8_2.length : Int)) = true := decide_eq_true c38
                                      clear c38
                                      by_cases c39 : 0 ≤ ((rd_T32 t460 x32_2).f1)
                                      · rw [if_pos c39] at H
                                        have c39b0 : decide (0 ≤ ((rd_T32 t460 x32_2).f1)) = true := decide_eq_true c39
                                        clear c39
                                        by_cases c40 : ((rd_T32 t460 x32_2).f1) < (x8_2.length : Int)
                                        · rw [if_pos c40] at H
                                          have c40b0 : decide (((rd_T32 t460 x32_2).f1) < (x8_2.length : Int)) = true := decide_eq_true c40
                                          clear c40
                                          obtain ⟨y468, hy468⟩ : ∃ y_ : List Int, y_ = (x8_2.set (((rd_T32 t460 x32_2).f1) : Int).toNat (wrap64 ((rd x8_2 ((rd_T32 t460 x32_2).f0)) + ((rd_T32 t460 x32_2).f2)))) := ⟨_, rfl⟩
                                          replace H : (if ((rd_T32 t460 x32_2).f1) < (x9_2.length : Int) then (impl_TreeHeights.l1 kj24 l1 l2 y468 (x9_2.set (((rd_T32 t460 x32_2).f1) : Int).toNat true) (l2.length : Int) x26_1 t460 (t460.length : Int) (wrap64 (x32_2 + 1))) else (none)) = some (r1, r2) := by first | (rw [hy468]; with_reducible exact H) | (have H2_ := (Option.bind_some _ _).symm.trans H; rw [hy468]; with_reducible exact H2_) | (have H2_ := (Option.bind_some _ _).symm.trans H; with_reducible exact H2_) | with_reducible exact H | (rw [hy468]; exact H) | exact H
                                          have Ny468 := Aside0.mk hy468
                                          clear hy468
                                          by_cases c42 : ((rd_T32 t460 x32_2).f1) < (x9_2.length : Int)
                                          · rw [if_pos c42] at H
                                            have c42b0 : decide (((rd_T32 t460 x32_2).f1) < (x9_2.length : Int)) = true := decide_eq_true c42
                                            clear c42
                                            obtain ⟨y469, hy469⟩ : ∃ y_ : List Bool, y_ = (x9_2.set (((rd_T32 t460 x32_2).f1) : Int).toNat true) := ⟨_, rfl⟩
                                            replace H : (impl_TreeHeights.l1 kj24 l1 l2 y468 y469 (l2.length : Int) x26_1 t460 (t460.length : Int) (wrap64 (x32_2 + 1))) = some (r1, r2) := by first | (rw [hy469]; with_reducible exact H) | (have H2_ := (Option.bind_some _ _).symm.trans H; rw [hy469]; with_reducible exact H2_) | (have H2_ := (Option.bind_some _ _).symm.trans H; with_reducible exact H2_) | with_reducible exact H | (rw [hy469]; exact H) | exact H
                                            have Ny469 := Aside0.mk hy469
                                            clear hy469
                                            have H' := Aside0.mk H
                                            clear H
                                            try go_wp2
                                            have n0_ := Aside0.mk (Kd.R_drew HO_8.out)
                                            have n1_ := Aside0.mk (Kd.R_drew HO_9.out)
                                            have n2_ := Aside0.mk (Kd.R_drew HO_30.out)
                                            have n3_ := Aside0.mk (blk_drew BK464.out)
                                            have n4_ := Aside0.mk (below_drew1 HB.out)
                                            clear HO_8
                                            clear HO_9
                                            clear HO_30
                                            clear BK464
                                            clear HB
                                            have HO_8 := n0_
                                            have HO_9 := n1_
                                            have HO_30 := n2_
                                            have BK464 := n3_
                                            have HB := n4_
                                            clear n0_ n1_ n2_ n3_ n4_
                                            obtain ⟨Ao45, co45, eo45⟩ := Kd.R_slice HO_8.out
                                            (first | subst eo45 | (injection eo45 with f1_ f2_ f3_; have f4_ := f1_.symm; have f5_ := f3_.symm; clear f1_ f2_ f3_; subst f4_; subst f5_))
                                            have p467 : 0 ≤ (((rd_T32 t460 x32_2).f0) : Int) := of_decide_eq_true qq3
                                            have q467 : ((rd_T32 t460 x32_2).f0) < (x8_2.length : Int) := of_decide_eq_true qq3
                                            obtain ⟨ad467, e467, hx467_0⟩ := Kd.at_int (Kd.R_reads' HO_8.out).2.2 ((rd_T32 t460 x32_2).f0) p467 q467
                                            cases e467
                                            replace p467 := eq_true p467
                                            replace q467 := eq_true q467
                                            have p41 : 0 ≤ (((rd_T32 t460 x32_2).f1) : Int) := of_decide_eq_true qq3
                                            have q41 : (((rd_T32 t460 x32_2).f1) : Int) < ((x8_2.length : Int) : Int) := of_decide_eq_true qq3
                                            obtain ⟨go41, co41, eo41, gb41, gl41, cl41, HG41⟩ := Kd.R_form HO_8.out (by omega)
                                            (first | cases eo41 | (injection eo41 with ea_ en_ ec_; (first | subst ea_ | (injection ea_ with ea_; subst ea_)); subst ec_; clear en_))
                                            have GB41 := Aside0.mk gb41
                                            have GG41 := Aside0.mk HG41
                                            clear gb41 gl41 HG41
                                            (first | simp only [add_plain] at hx467_0 | skip)
                                            obtain ⟨hx41_0, hf41_0⟩ := Kd.R_celln 0 HO_8.out (((rd_T32 t460 x32_2).f1) : Int) p41 q41
                                            replace p41 := eq_true p41
                                            replace q41 := eq_true q41
                                            have HP46 := Kd.R_putn HO_8.out (((rd_T32 t460 x32_2).f1) : Int) (wrap64 ((rd x8_2 ((rd_T32 t460 x32_2).f0)) + ((rd_T32 t460 x32_2).f2)))
                                            rw [← Ny468.out] at HP46
                                            have HQ46 := Aside0.mk HP46
                                            clear HP46
                                            refine start_ (n := 13) (S := fun w' => w'.cell? ⟨gb464, 0, none⟩ = some (.int .i64 ((rd_T32 t460 x32_2).f0)) ∧ w'.cell? ⟨gb464, 1, none⟩ = some (.int .i64 ((rd_T32 t460 x32_2).f1)) ∧ w'.cell? ⟨gb464, 2, none⟩ = some (.int .i64 ((rd_T32 t460 x32_2).f2)) ∧ w'.cell? ⟨gb464, 3, none⟩ = some (.int .i64 ((rd_T32 t460 x32_2).f3)) ∧ w'.cell? ⟨go41, (((rd_T32 t460 x32_2).f0)).toNat, none⟩ = some (.int .i64 (rd x8_2 ((rd_T32 t460 x32_2).f0)))) (ds := [12]) #[false, false, false, false, false, false, false, false, false, false, false, false, false] (by kernel_rfl) rfl rfl ⟨(blk_cell BK464.out 0).trans rfl, (blk_cell BK464.out 1).trans rfl, (blk_cell BK464.out 2).trans rfl, (blk_cell BK464.out 3).trans rfl, hx467_0⟩ (fun hHeld => ?_); refine with_tabW impl_TreeHeights.tab12 impl_TreeHeights.bits12 (fun HT_ HW_ => ?_)
                                            generalize wc.drew = w44 at HO_8 HO_9 HO_30 BK464 HB GG41 HQ46 hf41_0 hx41_0 hx467_0 hHeld ⊢
                                            refine pure_ (i := 0) (N := some 50) #[true, false, false, false, false, false, false, false, false, false, false, false, false] rfl rfl (any_of HT_.out (by kernel_rfl)) (fun _ _ _ h => h) (Or.inl ⟨by rfl, pA_⟩) pB_ ?_
                                            refine pure_ (i := 1) (N := some 51) #[true, true, false, false, false, false, false, false, false, false, false, false, false] rfl rfl (any_of HT_.out (by kernel_rfl)) (fun _ _ _ h => h) (Or.inl ⟨by rfl, pA_⟩) pB_ ?_
                                            refine pure_ (i := 3) (N := some 53) #[true, true, false, true, false, false, false, false, false, false, false, false, false] rfl rfl (any_of HT_.out (by kernel_rfl)) (fun _ _ _ h => h) (Or.inl ⟨by rfl, pA_⟩) pB_ ?_
                                            refine pure_ (i := 4) (N := some 54) #[true, true, false, true, true, false, false, false, false, false, false, false, false] rfl rfl (any_of HT_.out (by kernel_rfl)) (fun _ _ _ h => h) (Or.inl ⟨by rfl, pA_⟩) pB_ ?_
                                            refine pure_ (i := 8) (N := some 58) #[true, true, false, true, true, false, false, false, true, false, false, false, false] rfl rfl (any_of HT_.out (by kernel_rfl)) (fun _ _ _ h => h) (Or.inl ⟨by rfl, pA_⟩) pB_ ?_
                                            refine take_ (i := 2) (N := some 52) (v := ?_) (a' := ?_) #[true, true, true, true, true, false, false, false, true, false, false, false, false] rfl rfl (take_ofW HT_.out HW_.out (by kernel_rfl)) (fun _ _ _ h => h) (Or.inl ⟨by rfl, ?_⟩) hHeld ?_ ?_
                                            rotate_left
                                            · rintro w' ⟨s0, s1, s2, s3, s4⟩
                                              go_simp
                                              with_reducible rfl
                                            rotate_left
                                            · simp only [Act.put, List.setIfInBounds_toArray, List.set_cons_zero, List.set_cons_succ, i64_w, i32_w]
                                              rfl
                                            refine take_ (i := 5) (N := some 55) (v := ?_) (a' := ?_) #[true, true, true, true, true, true, false, false, true, false, false, false, false] rfl rfl (take_ofW HT_.out HW_.out (by kernel_rfl)) (fun _ _ _ h => h) (Or.inl ⟨by rfl, ?_⟩) hHeld ?_ ?_
                                            rotate_left
                                            · rintro w' ⟨s0, s1, s2, s3, s4⟩
                                              go_simp
                                              with_reducible rfl
                                            rotate_left
                                            · simp only [Act.put, List.setIfInBounds_toArray, List.set_cons_zero, List.set_cons_succ, i64_w, i32_w]
                                              rfl
                                            refine pure_ (i := 6) (N := some 56) #[true, true, true, true, true, true, true, false, true, false, false, false, false] rfl rfl (any_of HT_.out (by kernel_rfl)) (fun _ _ _ h => h) (Or.inl ⟨by rfl, pA_⟩) pB_ ?_
                                            refine take_ (i := 7) (N := some 57) (v := ?_) (a' := ?_) #[true, true, true, true, true, true, true, true, true, false, false, false, false] rfl rfl (take_ofW HT_.out HW_.out (by kernel_rfl)) (fun _ _ _ h => h) (Or.inl ⟨by rfl, ?_⟩) hHeld ?_ ?_
                                            rotate_left
                                            · rintro w' ⟨s0, s1, s2, s3, s4⟩
                                              go_simp
                                              with_reducible rfl
                                            rotate_left
                                            · simp only [Act.put, List.setIfInBounds_toArray, List.set_cons_zero, List.set_cons_succ, i64_w, i32_w]
                                              rfl
                                            refine take_ (i := 9) (N := some 59) (v := ?_) (a' := ?_) #[true, true, true, true, true, true, true, true, true, true, false, false, false] rfl rfl (take_ofW HT_.out HW_.out (by kernel_rfl)) (fun _ _ _ h => h) (Or.inl ⟨by rfl, ?_⟩) hHeld ?_ ?_
                                            rotate_left
                                            · rintro w' ⟨s0, s1, s2, s3, s4⟩
                                              go_simp
                                              with_reducible rfl
                                            rotate_left
                                            · simp only [Act.put, List.setIfInBounds_toArray, List.set_cons_zero, List.set_cons_succ, i64_w, i32_w]
                                              rfl
                                            refine pure_ (i := 10) (N := some 60) #[true, true, true, true, true, true, true, true, true, true, true, false, false] rfl rfl (any_of HT_.out (by kernel_rfl)) (fun _ _ _ h => h) (Or.inl ⟨by rfl, pA_⟩) pB_ ?_
                                            refine pure_ (i := 11) (N := some 61) #[true, true, true, true, true, true, true, true, true, true, true, true, false] rfl rfl (any_of HT_.out (by kernel_rfl)) (fun _ _ _ h => h) (Or.inl ⟨by rfl, pA_⟩) pB_ ?_
                                            refine last_ (i := 12) (N := none) #[true, true, true, true, true, true, true, true, true, true, true, true, true] rfl rfl (one_of HT_.out (by kernel_rfl)) (by decide) (fun K hK => ?_)
                                            refine skip_ (w1 := ?_) (by rfl) rfl ?_ ?_
                                            rotate_left
                                            · go_simp
                                              rfl
                                            refine hK.out _ _ ?_
                                            clear hK K
                                            refine done_ (done_of HT_.out (by kernel_rfl)) ?_
                                            have n0_ : Aside0 (Kd.R (Kd.int .i64) 3 (w44.setCell ⟨go41, (((rd_T32 t460 x32_2).f1) : Int).toNat, none⟩ (.int .i64 (wrap64 ((rd x8_2 ((rd_T32 t460 x32_2).f0)) + ((rd_T32 t460 x32_2).f2))))) w.heap.size (fun _ => True) (.slice (some ⟨go41, 0, none⟩) x8_2.length co45) y468) := ⟨qq2 HQ46.out⟩
                                            have n1_ : Aside0 (Kd.R Kd.bool 4 (w44.setCell ⟨go41, (((rd_T32 t460 x32_2).f1) : Int).toNat, none⟩ (.int .i64 (wrap64 ((rd x8_2 ((rd_T32 t460 x32_2).f0)) + ((rd_T32 t460 x32_2).f2))))) w.heap.size (fun _ => True) (.slice (some ⟨go10, 0, none⟩) x9_2.length co10) x9_2) := ⟨by (with_reducible repeat (first | apply Kd.R_alloc | apply Kd.R_drewN | apply Kd.R_drew)); exact Kd.R_mono (Kd.R_far (p := ⟨go41, (((rd_T32 t460 x32_2).f1) : Int).toNat, none⟩) (Kd.R_types HO_9.out GG41.out (by decide)) (fun _ hk => hk.2) (.int .i64 (wrap64 ((rd x8_2 ((rd_T32 t460 x32_2).f0)) + ((rd_T32 t460 x32_2).f2))))) (fun _ hk => trivial)⟩
                                            have n2_ : Aside0 (Kd.R k32 32 (w44.setCell ⟨go41, (((rd_T32 t460 x32_2).f1) : Int).toNat, none⟩ (.int .i64 (wrap64 ((rd x8_2 ((rd_T32 t460 x32_2).f0)) + ((rd_T32 t460 x32_2).f2))))) w.heap.size (fun k_ => k_ ≠ gb464) (.slice (some ad463) t460.length co21) t460) := ⟨by (with_reducible repeat (first | apply Kd.R_alloc | apply Kd.R_drewN | apply Kd.R_drew)); exact Kd.R_mono (Kd.R_far (p := ⟨go41, (((rd_T32 t460 x32_2).f1) : Int).toNat, none⟩) (Kd.R_types HO_30.out GG41.out (by decide)) (fun _ hk => hk.2) (.int .i64 (wrap64 ((rd x8_2 ((rd_T32 t460 x32_2).f0)) + ((rd_T32 t460 x32_2).f2))))) (fun _ hk => hk.1)⟩
                                            have n3_ : Aside0 ((w44.setCell ⟨go41, (((rd_T32 t460 x32_2).f1) : Int).toNat, none⟩ (.int .i64 (wrap64 ((rd x8_2 ((rd_T32 t460 x32_2).f0)) + ((rd_T32 t460 x32_2).f2))))).heap[gb464]? = some (.cells #[.int .i64 ((rd_T32 t460 x32_2).f0), .int .i64 ((rd_T32 t460 x32_2).f1), .int .i64 ((rd_T32 t460 x32_2).f2), .int .i64 ((rd_T32 t460 x32_2).f3)] 32 (0, 0))) := ⟨qq53⟩
                                            have n4_ : Aside0 (Below w.heap.size w (w44.setCell ⟨go41, (((rd_T32 t460 x32_2).f1) : Int).toNat, none⟩ (.int .i64 (wrap64 ((rd x8_2 ((rd_T32 t460 x32_2).f0)) + ((rd_T32 t460 x32_2).f2)))))) := ⟨qq34 HB.out GB41.out GE464.out⟩
                                            (try clear HO_8)
                                            (try clear HO_9)
                                            (try clear HO_30)
                                            (try clear BK464)
                                            (try clear HB)
                                            generalize (w44.setCell ⟨go41, (((rd_T32 t460 x32_2).f1) : Int).toNat, none⟩ (.int .i64 (wrap64 ((rd x8_2 ((rd_T32 t460 x32_2).f0)) + ((rd_T32 t460 x32_2).f2))))) = w47 at n0_ n1_ n2_ n3_ n4_ ⊢
                                            have HO_8 := n0_
                                            have HO_9 := n1_
                                            have HO_30 := n2_
                                            have BK464 := n3_
                                            have HB := n4_
                                            clear n0_ n1_ n2_ n3_ n4_
                                            have hcz48_0 : w47.cell? ⟨gb464, 0, none⟩ = some (.int .i64 ((rd_T32 t460 x32_2).f0)) := (blk_cell BK464.out 0).trans rfl
                                            have hcz48_1 : w47.cell? ⟨gb464, 1, none⟩ = some (.int .i64 ((rd_T32 t460 x32_2).f1)) := (blk_cell BK464.out 1).trans rfl
                                            have hcz48_2 : w47.cell? ⟨gb464, 2, none⟩ = some (.int .i64 ((rd_T32 t460 x32_2).f2)) := (blk_cell BK464.out 2).trans rfl
                                            have hcz48_3 : w47.cell? ⟨gb464, 3, none⟩ = some (.int .i64 ((rd_T32 t460 x32_2).f3)) := (blk_cell BK464.out 3).trans rfl
                                            have hfz48_0 := blk_frozen BK464.out 0
                                            have hfz48_1 := blk_frozen BK464.out 1
                                            have hfz48_2 := blk_frozen BK464.out 2
                                            have hfz48_3 := blk_frozen BK464.out 3
                                            have p43 : 0 ≤ (((rd_T32 t460 x32_2).f1) : Int) := of_decide_eq_true qq3
                                            have q43 : (((rd_T32 t460 x32_2).f1) : Int) < ((x9_2.length : Int) : Int) := of_decide_eq_true qq3
                                            obtain ⟨hx43_0, hf43_0⟩ := Kd.R_celln false HO_9.out (((rd_T32 t460 x32_2).f1) : Int) p43 q43
                                            replace p43 := eq_true p43
                                            replace q43 := eq_true q43
                                            obtain ⟨hy49_, hz49_⟩ := Kd.R_celln false HO_9.out (((rd_T32 t460 x32_2).f1) : Int) (of_decide_eq_true qq3) (of_decide_eq_true qq3)
                                            have HP49 := Kd.R_putg HO_9.out (((rd_T32 t460 x32_2).f1) : Int) true
                                            try go_wp2_with (first | ((with_reducible refine gate_store (t := 4) (p := 65) rfl ?_); refine store_event (t := 4) (p := 65) (v := ?vo_w50) (w1 := (w47.setCell ⟨go10, (((rd_T32 t460 x32_2).f1) : Int).toNat, none⟩ (.bool true))) ?hg ?ho ?hn ?hr ?_; (case ho => rfl); (case hg => rfl); (case hn => rfl); (case hr => exact qq16); intro w50 hw; have hg : w47.grownBy w50 (some go10) := (by rw [hw]; exact HP49.2); have hp_ : Kd.R Kd.bool 4 w50 w.heap.size (fun _ => True) (.slice (some ⟨go10, 0, none⟩) x9_2.length co10) y469 := (by rw [hw, Ny469.out]; exact HP49.1); clear HP49; have n0_ := Aside0.mk (Kd.R_over' (v := (.slice (some ⟨go10, 0, none⟩) x9_2.length co10)) (qq2 HO_8.out) (Kd.R_typed HO_9.out) (by decide) hg); have n1_ := Aside0.mk (hp_); have n2_ := Aside0.mk (Kd.R_over' (v := (.slice (some ⟨go10, 0, none⟩) x9_2.length co10)) (qq2 HO_30.out) (Kd.R_typed HO_9.out) (by decide) hg); have n3_ := Aside0.mk (blk_grown (g := gb464) (o := .cells #[.int .i64 ((rd_T32 t460 x32_2).f0), .int .i64 ((rd_T32 t460 x32_2).f1), .int .i64 ((rd_T32 t460 x32_2).f2), .int .i64 ((rd_T32 t460 x32_2).f3)] 32 (0, 0)) (qq23 BK464.out) hg (Kd.R_ne HO_9.out BK464.out (by decide))); have n4_ := Aside0.mk ((qq81 : Below w.heap.size w w50)); clear HO_8; clear HO_9; clear HO_30; clear BK464; clear HB; have HO_8 := n0_; have HO_9 := n1_; have HO_30 := n2_; have BK464 := n3_; have HB := n4_; clear n0_ n1_ n2_ n3_ n4_; clear hg hw hp_))
                                            (try simp only [← hl9_2])
                                            go_roundg kj24
                                            case measure => have := HK1.out; have := HK2.out; have := HJ24.out; omega
                                            case rel => exact ⟨(y468), (y469), (wrap64 (x32_2 + 1)), qq13, H', ⟨qq54 HK1.out HK2.out HJ24.out⟩, ⟨qq26 HO_8.out⟩, ⟨qq26 HO_9.out⟩, ⟨qq46⟩, ⟨qq4 HB.out GE464.out⟩⟩
                                          · rw [if_neg c42] at H
                                            exact absurd H (by simp)
                                        · rw [if_neg c40] at H
                                          exact absurd H (by simp)
                                      · rw [if_neg c39] at H
                                        exact absurd H (by simp)
                                    · rw [if_neg c38] at H
                                      exact absurd H (by simp)
                                  · rw [if_neg c37] at H
                                    exact absurd H (by simp)
                                · replace c36 := Bool.eq_false_iff.mpr c36
                                  subst c36
                                  have H1 : (if 0 ≤ ((rd_T32 t460 x32_2).f1) then (if ((rd_T32 t460 x32_2).f1) < (x9_2.length : Int) then (if rdOf false x9_2 ((rd_T32 t460 x32_2).f1) = true then (if 0 ≤ ((rd_T32 t460 x32_2).f0) then (if ((rd_T32 t460 x32_2).f0) < (x9_2.length : Int) then (if rdOf false x9_2 ((rd_T32 t460 x32_2).f0) = true then (impl_TreeHeights.l1 kj24 l1 l2 x8_2 x9_2 (l2.length : Int) x26_1 t460 (t460.length : Int) (wrap64 (x32_2 + 1))) else (if ((rd_T32 t460 x32_2).f1) < (x8_2.length : Int) then (if ((rd_T32 t460 x32_2).f0) < (x8_2.length : Int) then (impl_TreeHeights.l1 kj24 l1 l2 (x8_2.set (((rd_T32 t460 x32_2).f0) : Int).toNat (wrap64 ((rd x8_2 ((rd_T32 t460 x32_2).f1)) - ((rd_T32 t460 x32_2).f2)))) (x9_2.set (((rd_T32 t460 x32_2).f0) : Int).toNat true) (l2.length : Int) x26_1 t460 (t460.length : Int) (wrap64 (x32_2 + 1))) else (none)) else (none))) else (none)) else (none)) else (impl_TreeHeights.l1 kj24 l1 l2 x8_2 x9_2 (l2.length : Int) x26_1 t460 (t460.length : Int) (wrap64 (x32_2 + 1)))) else (none)) else (none)) = some (r1, r2) := by rw [if_neg (show ¬ (false = true) by decide)] at H; exact H
                                  clear H
                                  have H := H1
                                  clear H1
                                  by_cases c51 : 0 ≤ ((rd_T32 t460 x32_2).f1)
                                  · rw [if_pos c51] at H
                                    have c51b0 : decide (0 ≤ ((rd_T32 t460 x32_2).f1)) = true := decide_eq_true c51
                                    clear c51
                                    by_cases c52 : ((rd_T32 t460 x32_2).f1) < (x9_2.length : Int)
                                    · rw [if_pos c52] at H
                                      have c52b0 : decide (((rd_T32 t460 x32_2).f1) < (x9_2.length : Int)) = true := decide_eq_true c52
                                      clear c52
                                      obtain ⟨bq53, hbq53⟩ : ∃ b_ : Bool, b_ = (rdOf false x9_2 ((rd_T32 t460 x32_2).f1)) := ⟨_, rfl⟩
                                      replace H : (if bq53 = true then (if 0 ≤ ((rd_T32 t460 x32_2).f0) then (if ((rd_T32 t460 x32_2).f0) < (x9_2.length : Int) then (if rdOf false x9_2 ((rd_T32 t460 x32_2).f0) = true then (impl_TreeHeights.l1 kj24 l1 l2 x8_2 x9_2 (l2.length : Int) x26_1 t460 (t460.length : Int) (wrap64 (x32_2 + 1))) else (if ((rd_T32 t460 x32_2).f1) < (x8_2.length : Int) then (if ((rd_T32 t460 x32_2).f0) < (x8_2.length : Int) then (impl_TreeHeights.l1 kj24 l1 l2 (x8_2.set (((rd_T32 t460 x32_2).f0) : Int).toNat (wrap64 ((rd x8_2 ((rd_T32 t460 x32_2).f1)) - ((rd_T32 t460 x32_2).f2)))) (x9_2.set (((rd_T32 t460 x32_2).f0) : Int).toNat true) (l2.length : Int) x26_1 t460 (t460.length : Int) (wrap64 (x32_2 + 1))) else (none)) else (none))) else (none)) else (none)) else (impl_TreeHeights.l1 kj24 l1 l2 x8_2 x9_2 (l2.length : Int) x26_1 t460 (t460.length : Int) (wrap64 (x32_2 + 1)))) = some (r1, r2) := by rw [← hbq53] at H; exact H
                                      have Nbq53 := Aside0.mk hbq53
                                      clear hbq53
                                      by_cases c54 : bq53 = true
                                      · subst c54
                                        have H1 : (if 0 ≤ ((rd_T32 t460 x32_2).f0) then (if ((rd_T32 t460 x32_2).f0) < (x9_2.length : Int) then (if rdOf false x9_2 ((rd_T32 t460 x32_2).f0) = true then (impl_TreeHeights.l1 kj24 l1 l2 x8_2 x9_2 (l2.length : Int) x26_1 t460 (t460.length : Int) (wrap64 (x32_2 + 1))) else (if ((rd_T32 t460 x32_2).f1) < (x8_2.length : Int) then (if ((rd_T32 t460 x32_2).f0) < (x8_2.length : Int) then (impl_TreeHeights.l1 kj24 l1 l2 (x8_2.set (((rd_T32 t460 x32_2).f0) : Int).toNat (wrap64 ((rd x8_2 ((rd_T32 t460 x32_2).f1)) - ((rd_T32 t460 x32_2).f2)))) (x9_2.set (((rd_T32 t460 x32_2).f0) : Int).toNat true) (l2.length : Int) x26_1 t460 (t460.length : Int) (wrap64 (x32_2 + 1))) else (none)) else (none))) else (none)) else (none)) = some (r1, r2) := by rw [if_pos rfl] at H; exact H
                                        clear H
                                        have H := H1
                                        clear H1
                                        by_cases c55 : 0 ≤ ((rd_T32 t460 x32_2).f0)
                                        · rw [if_pos c55] at H
                                          have c55b0 : decide (0 ≤ ((rd_T32 t460 x32_2).f0)) = true := decide_eq_true c55
                                          clear c55
                                          by_cases c56 : ((rd_T32 t460 x32_2).f0) < (x9_2.length : Int)
                                          · rw [if_pos c56] at H
                                            have c56b0 : decide (((rd_T32 t460 x32_2).f0) < (x9_2.length : Int)) = true := decide_eq_true c56
                                            clear c56
                                            obtain ⟨bq57, hbq57⟩ : ∃ b_ : Bool, b_ = (rdOf false x9_2 ((rd_T32 t460 x32_2).f0)) := ⟨_, rfl⟩
                                            replace H : (if bq57 = true then (impl_TreeHeights.l1 kj24 l1 l2 x8_2 x9_2 (l2.length : Int) x26_1 t460 (t460.length : Int) (wrap64 (x32_2 + 1))) else (if ((rd_T32 t460 x32_2).f1) < (x8_2.length : Int) then (if ((rd_T32 t460 x32_2).f0) < (x8_2.length : Int) then (impl_TreeHeights.l1 kj24 l1 l2 (x8_2.set (((rd_T32 t460 x32_2).f0) : Int).toNat (wrap64 ((rd x8_2 ((rd_T32 t460 x32_2).f1)) - ((rd_T32 t460 x32_2).f2)))) (x9_2.set (((rd_T32 t460 x32_2).f0) : Int).toNat true) (l2.length : Int) x26_1 t460 (t460.length : Int) (wrap64 (x32_2 + 1))) else (none)) else (none))) = some (r1, r2) := by rw [← hbq57] at H; exact H
                                            have Nbq57 := Aside0.mk hbq57
                                            clear hbq57
                                            by_cases c58 : bq57 = true
                                            · subst c58
                                              have H1 : (impl_TreeHeights.l1 kj24 l1 l2 x8_2 x9_2 (l2.length : Int) x26_1 t460 (t460.length : Int) (wrap64 (x32_2 + 1))) = some (r1, r2) := by rw [if_pos rfl] at H; exact H
                                              clear H
                                              have H := H1
                                              clear H1
                                              have H' := Aside0.mk H
                                              clear H
                                              have hcz59_0 : wc.cell? ⟨gb464, 0, none⟩ = some (.int .i64 ((rd_T32 t460 x32_2).f0)) := (blk_cell BK464.out 0).trans rfl
                                              have hcz59_1 : wc.cell? ⟨gb464, 1, none⟩ = some (.int .i64 ((rd_T32 t460 x32_2).f1)) := (blk_cell BK464.out 1).trans rfl
                                              have hcz59_2 : wc.cell? ⟨gb464, 2, none⟩ = some (.int .i64 ((rd_T32 t460 x32_2).f2)) := (blk_cell BK464.out 2).trans rfl
                                              have hcz59_3 : wc.cell? ⟨gb464, 3, none⟩ = some (.int .i64 ((rd_T32 t460 x32_2).f3)) := (blk_cell BK464.out 3).trans rfl
                                              have hfz59_0 := blk_frozen BK464.out 0
                                              have hfz59_1 := blk_frozen BK464.out 1
                                              have hfz59_2 := blk_frozen BK464.out 2
                                              have hfz59_3 := blk_frozen BK464.out 3
                                              have p470 : 0 ≤ (((rd_T32 t460 x32_2).f1) : Int) := of_decide_eq_true qq3
                                              have q470 : ((rd_T32 t460 x32_2).f1) < (x9_2.length : Int) := of_decide_eq_true qq3
                                              obtain ⟨ad470, e470, hx470_0⟩ := Kd.at_bool (Kd.R_reads' HO_9.out).2.2 ((rd_T32 t460 x32_2).f1) p470 q470
                                              (try rw [← Nbq53.out] at hx470_0)
                                              (try rw [← Nbq57.out] at hx470_0)
                                              obtain rfl : (⟨go10, 0, none⟩ : Addr) = ad470 := (by injection e470)
                                              (first | simp only [add_plain] at hx470_0 | simp only [add_at] at hx470_0 | simp only [Addr.add, Nat.zero_add] at hx470_0 | skip)
                                              replace p470 := eq_true p470
                                              replace q470 := eq_true q470
                                              have p471 : 0 ≤ (((rd_T32 t460 x32_2).f0) : Int) := of_decide_eq_true qq3
                                              have q471 : ((rd_T32 t460 x32_2).f0) < (x9_2.length : Int) := of_decide_eq_true qq3
                                              obtain ⟨ad471, e471, hx471_0⟩ := Kd.at_bool (Kd.R_reads' HO_9.out).2.2 ((rd_T32 t460 x32_2).f0) p471 q471
                                              (try rw [← Nbq53.out] at hx471_0)
                                              (try rw [← Nbq57.out] at hx471_0)
                                              obtain rfl : (⟨go10, 0, none⟩ : Addr) = ad471 := (by injection e471)
                                              (first | simp only [add_plain] at hx471_0 | simp only [add_at] at hx471_0 | simp only [Addr.add, Nat.zero_add] at hx471_0 | skip)
                                              replace p471 := eq_true p471
                                              replace q471 := eq_true q471
                                              go_wp2
                                              (try simp only [← hl9_2])
                                              go_roundg kj24
                                              case measure => have := HK1.out; have := HK2.out; have := HJ24.out; omega
                                              case rel => exact ⟨(x8_2), (x9_2), (wrap64 (x32_2 + 1)), qq13, H', ⟨qq54 HK1.out HK2.out HJ24.out⟩, ⟨qq26 HO_8.out⟩, ⟨qq26 HO_9.out⟩, ⟨qq46⟩, ⟨qq4 HB.out GE464.out⟩⟩
                                            · replace c58 := Bool.eq_false_iff.mpr c58
                                              subst c58
                                              have H1 : (if ((rd_T32 t460 x32_2).f1) < (x8_2.length : Int) then (if ((rd_T32 t460 x32_2).f0) < (x8_2.length : Int) then (impl_TreeHeights.l1 kj24 l1 l2 (x8_2.set (((rd_T32 t460 x32_2).f0) : Int).toNat (wrap64 ((rd x8_2 ((rd_T32 t460 x32_2).f1)) - ((rd_T32 t460 x32_2).f2)))) (x9_2.set (((rd_T32 t460 x32_2).f0) : Int).toNat true) (l2.length : Int) x26_1 t460 (t460.length : Int) (wrap64 (x32_2 + 1))) else (none)) else (none)) = some (r1, r2) := by rw [if_neg (show ¬ (false = true) by decide)] at H; exact H
                                              clear H
                                              have H := H1
                                              clear H1
                                              by_cases c60 : ((rd_T32 t460 x32_2).f1) < (x8_2.length : Int)
                                              · rw [if_pos c60] at H
                                                have c60b0 : decide (((rd_T32 t460 x32_2).f1) < (x8_2.length : Int)) = true := decide_eq_true c60
                                                clear c60
                                                by_cases c61 : ((rd_T32 t460 x32_2).f0) < (x8_2.length : Int)
                                                · rw [if_pos c61] at H
                                                  have c61b0 : decide (((rd_T32 t460 x32_2).f0) < (x8_2.length : Int)) = true := decide_eq_true c61
                                                  clear c61
                                                  obtain ⟨y473, hy473⟩ : ∃ y_ : List Int, y_ = (x8_2.set (((rd_T32 t460 x32_2).f0) : Int).toNat (wrap64 ((rd x8_2 ((rd_T32 t460 x32_2).f1)) - ((rd_T32 t460 x32_2).f2)))) := ⟨_, rfl⟩
                                                  replace H : (impl_TreeHeights.l1 kj24 l1 l2 y473 (x9_2.set (((rd_T32 t460 x32_2).f0) : Int).toNat true) (l2.length : Int) x26_1 t460 (t460.length : Int) (wrap64 (x32_2 + 1))) = some (r1, r2) := by first | (rw [hy473]; with_reducible exact H) | (have H2_ := (Option.bind_some _ _).symm.trans H; rw [hy473]; with_reducible exact H2_) | (have H2_ := (Option.bind_some _ _).symm.trans H; with_reducible exact H2_) | with_reducible exact H | (rw [hy473]; exact H) | exact H
                                                  have Ny473 := Aside0.mk hy473
                                                  clear hy473
                                                  obtain ⟨y474, hy474⟩ : ∃ y_ : List Bool, y_ = (x9_2.set (((rd_T32 t460 x32_2).f0) : Int).toNat true) := ⟨_, rfl⟩
                                                  replace H : (impl_TreeHeights.l1 kj24 l1 l2 y473 y474 (l2.length : Int) x26_1 t460 (t460.length : Int) (wrap64 (x32_2 + 1))) = some (r1, r2) := by first | (rw [hy474]; with_reducible exact H) | (have H2_ := (Option.bind_some _ _).symm.trans H; rw [hy474]; with_reducible exact H2_) | (have H2_ := (Option.bind_some _ _).symm.trans H; with_reducible exact H2_) | with_reducible exact H | (rw [hy474]; exact H) | exact H
                                                  have Ny474 := Aside0.mk hy474
                                                  clear hy474
                                                  have H' := Aside0.mk H
                                                  clear H
                                                  have hcz64_0 : wc.cell? ⟨gb464, 0, none⟩ = some (.int .i64 ((rd_T32 t460 x32_2).f0)) := (blk_cell BK464.out 0).trans rfl
                                                  have hcz64_1 : wc.cell? ⟨gb464, 1, none⟩ = some (.int .i64 ((rd_T32 t460 x32_2).f1)) := (blk_cell BK464.out 1).trans rfl
                                                  have hcz64_2 : wc.cell? ⟨gb464, 2, none⟩ = some (.int .i64 ((rd_T32 t460 x32_2).f2)) := (blk_cell BK464.out 2).trans rfl
                                                  have hcz64_3 : wc.cell? ⟨gb464, 3, none⟩ = some (.int .i64 ((rd_T32 t460 x32_2).f3)) := (blk_cell BK464.out 3).trans rfl
                                                  have hfz64_0 := blk_frozen BK464.out 0
                                                  have hfz64_1 := blk_frozen BK464.out 1
                                                  have hfz64_2 := blk_frozen BK464.out 2
                                                  have hfz64_3 := blk_frozen BK464.out 3
                                                  have p470 : 0 ≤ (((rd_T32 t460 x32_2).f1) : Int) := of_decide_eq_true qq3
                                                  have q470 : ((rd_T32 t460 x32_2).f1) < (x9_2.length : Int) := of_decide_eq_true qq3
                                                  obtain ⟨ad470, e470, hx470_0⟩ := Kd.at_bool (Kd.R_reads' HO_9.out).2.2 ((rd_T32 t460 x32_2).f1) p470 q470
                                                  (try rw [← Nbq53.out] at hx470_0)
                                                  (try rw [← Nbq57.out] at hx470_0)
                                                  obtain rfl : (⟨go10, 0, none⟩ : Addr) = ad470 := (by injection e470)
                                                  (first | simp only [add_plain] at hx470_0 | simp only [add_at] at hx470_0 | simp only [Addr.add, Nat.zero_add] at hx470_0 | skip)
                                                  replace p470 := eq_true p470
                                                  replace q470 := eq_true q470
                                                  have p471 : 0 ≤ (((rd_T32 t460 x32_2).f0) : Int) := of_decide_eq_true qq3
                                                  have q471 : ((rd_T32 t460 x32_2).f0) < (x9_2.length : Int) := of_decide_eq_true qq3
                                                  obtain ⟨ad471, e471, hx471_0⟩ := Kd.at_bool (Kd.R_reads' HO_9.out).2.2 ((rd_T32 t460 x32_2).f0) p471 q471
                                                  (try rw [← Nbq53.out] at hx471_0)
                                                  (try rw [← Nbq57.out] at hx471_0)
                                                  obtain rfl : (⟨go10, 0, none⟩ : Addr) = ad471 := (by injection e471)
                                                  (first | simp only [add_plain] at hx471_0 | simp only [add_at] at hx471_0 | simp only [Addr.add, Nat.zero_add] at hx471_0 | skip)
                                                  replace p471 := eq_true p471
                                                  replace q471 := eq_true q471
                                                  try go_wp2
                                                  have n0_ := Aside0.mk (Kd.R_drew HO_8.out)
                                                  have n1_ := Aside0.mk (Kd.R_drew HO_9.out)
                                                  have n2_ := Aside0.mk (Kd.R_drew HO_30.out)
                                                  have n3_ := Aside0.mk (blk_drew BK464.out)
                                                  have n4_ := Aside0.mk (below_drew1 HB.out)
                                                  clear HO_8
                                                  clear HO_9
                                                  clear HO_30
                                                  clear BK464
                                                  clear HB
                                                  have HO_8 := n0_
                                                  have HO_9 := n1_
                                                  have HO_30 := n2_
                                                  have BK464 := n3_
                                                  have HB := n4_
                                                  clear n0_ n1_ n2_ n3_ n4_
                                                  obtain ⟨Ao66, co66, eo66⟩ := Kd.R_slice HO_8.out
                                                  (first | subst eo66 | (injection eo66 with f1_ f2_ f3_; have f4_ := f1_.symm; have f5_ := f3_.symm; clear f1_ f2_ f3_; subst f4_; subst f5_))
                                                  have p472 : 0 ≤ (((rd_T32 t460 x32_2).f1) : Int) := of_decide_eq_true qq3
                                                  have q472 : ((rd_T32 t460 x32_2).f1) < (x8_2.length : Int) := of_decide_eq_true qq3
                                                  obtain ⟨ad472, e472, hx472_0⟩ := Kd.at_int (Kd.R_reads' HO_8.out).2.2 ((rd_T32 t460 x32_2).f1) p472 q472
                                                  cases e472
                                                  replace p472 := eq_true p472
                                                  replace q472 := eq_true q472
                                                  have p62 : 0 ≤ (((rd_T32 t460 x32_2).f0) : Int) := of_decide_eq_true qq3
                                                  have q62 : (((rd_T32 t460 x32_2).f0) : Int) < ((x8_2.length : Int) : Int) := of_decide_eq_true qq3
                                                  obtain ⟨go62, co62, eo62, gb62, gl62, cl62, HG62⟩ := Kd.R_form HO_8.out (by omega)
                                                  (first | cases eo62 | (injection eo62 with ea_ en_ ec_; (first | subst ea_ | (injection ea_ with ea_; subst ea_)); subst ec_; clear en_))
                                                  have GB62 := Aside0.mk gb62
                                                  have GG62 := Aside0.mk HG62
                                                  clear gb62 gl62 HG62
                                                  (first | simp only [add_plain] at hx472_0 | skip)
                                                  obtain ⟨hx62_0, hf62_0⟩ := Kd.R_celln 0 HO_8.out (((rd_T32 t460 x32_2).f0) : Int) p62 q62
                                                  replace p62 := eq_true p62
                                                  replace q62 := eq_true q62
                                                  have HP67 := Kd.R_putn HO_8.out (((rd_T32 t460 x32_2).f0) : Int) (wrap64 ((rd x8_2 ((rd_T32 t460 x32_2).f1)) - ((rd_T32 t460 x32_2).f2)))
                                                  rw [← Ny473.out] at HP67
                                                  have HQ67 := Aside0.mk HP67
                                                  clear HP67
                                                  refine start_ (n := 13) (S := fun w' => w'.cell? ⟨gb464, 0, none⟩ = some (.int .i64 ((rd_T32 t460 x32_2).f0)) ∧ w'.cell? ⟨gb464, 1, none⟩ = some (.int .i64 ((rd_T32 t460 x32_2).f1)) ∧ w'.cell? ⟨gb464, 2, none⟩ = some (.int .i64 ((rd_T32 t460 x32_2).f2)) ∧ w'.cell? ⟨gb464, 3, none⟩ = some (.int .i64 ((rd_T32 t460 x32_2).f3)) ∧ w'.cell? ⟨go62, (((rd_T32 t460 x32_2).f1)).toNat, none⟩ = some (.int .i64 (rd x8_2 ((rd_T32 t460 x32_2).f1)))) (ds := [12]) #[false, false, false, false, false, false, false, false, false, false, false, false, false] (by kernel_rfl) rfl rfl ⟨(blk_cell BK464.out 0).trans rfl, (blk_cell BK464.out 1).trans rfl, (blk_cell BK464.out 2).trans rfl, (blk_cell BK464.out 3).trans rfl, hx472_0⟩ (fun hHeld => ?_); refine with_tabW impl_TreeHeights.tab15 impl_TreeHeights.bits15 (fun HT_ HW_ => ?_)
                                                  generalize wc.drew = w65 at HO_8 HO_9 HO_30 BK464 HB GG62 HQ67 hf62_0 hx472_0 hx62_0 hHeld ⊢
                                                  refine pure_ (i := 0) (N := some 80) #[true, false, false, false, false, false, false, false, false, false, false, false, false] rfl rfl (any_of HT_.out (by kernel_rfl)) (fun _ _ _ h => h) (Or.inl ⟨by rfl, pA_⟩) pB_ ?_
                                                  refine pure_ (i := 1) (N := some 81) #[true, true, false, false, false, false, false, false, false, false, false, false, false] rfl rfl (any_of HT_.out (by kernel_rfl)) (fun _ _ _ h => h) (Or.inl ⟨by rfl, pA_⟩) pB_ ?_
                                                  refine pure_ (i := 3) (N := some 83) #[true, true, false, true, false, false, false, false, false, false, false, false, false] rfl rfl (any_of HT_.out (by kernel_rfl)) (fun _ _ _ h => h) (Or.inl ⟨by rfl, pA_⟩) pB_ ?_
                                                  refine pure_ (i := 4) (N := some 84) #[true, true, false, true, true, false, false, false, false, false, false, false, false] rfl rfl (any_of HT_.out (by kernel_rfl)) (fun _ _ _ h => h) (Or.inl ⟨by rfl, pA_⟩) pB_ ?_
                                                  refine pure_ (i := 8) (N := some 88) #[true, true, false, true, true, false, false, false, true, false, false, false, false] rfl rfl (any_of HT_.out (by kernel_rfl)) (fun _ _ _ h => h) (Or.inl ⟨by rfl, pA_⟩) pB_ ?_
                                                  refine take_ (i := 2) (N := some 82) (v := ?_) (a' := ?_) #[true, true, true, true, true, false, false, false, true, false, false, false, false] rfl rfl (take_ofW HT_.out HW_.out (by kernel_rfl)) (fun _ _ _ h => h) (Or.inl ⟨by rfl, ?_⟩) hHeld ?_ ?_
                                                  rotate_left
                                                  · rintro w' ⟨s0, s1, s2, s3, s4⟩
                                                    go_simp
                                                    with_reducible rfl
                                                  rotate_left
                                                  · simp only [Act.put, List.setIfInBounds_toArray, List.set_cons_zero, List.set_cons_succ, i64_w, i32_w]
                                                    rfl
                                                  refine take_ (i := 5) (N := some 85) (v := ?_) (a' := ?_) #[true, true, true, true, true, true, false, false, true, false, false, false, false] rfl rfl (take_ofW HT_.out HW_.out (by kernel_rfl)) (fun _ _ _ h => h) (Or.inl ⟨by rfl, ?_⟩) hHeld ?_ ?_
                                                  rotate_left
                                                  · rintro w' ⟨s0, s1, s2, s3, s4⟩
                                                    go_simp
                                                    with_reducible rfl
                                                  rotate_left
                                                  · simp only [Act.put, List.setIfInBounds_toArray, List.set_cons_zero, List.set_cons_succ, i64_w, i32_w]
                                                    rfl
                                                  refine pure_ (i := 6) (N := some 86) #[true, true, true, true, true, true, true, false, true, false, false, false, false] rfl rfl (any_of HT_.out (by kernel_rfl)) (fun _ _ _ h => h) (Or.inl ⟨by rfl, pA_⟩) pB_ ?_
                                                  refine take_ (i := 7) (N := some 87) (v := ?_) (a' := ?_) #[true, true, true, true, true, true, true, true, true, false, false, false, false] rfl rfl (take_ofW HT_.out HW_.out (by kernel_rfl)) (fun _ _ _ h => h) (Or.inl ⟨by rfl, ?_⟩) hHeld ?_ ?_
                                                  rotate_left
                                                  · rintro w' ⟨s0, s1, s2, s3, s4⟩
                                                    go_simp
                                                    with_reducible rfl
                                                  rotate_left
                                                  · simp only [Act.put, List.setIfInBounds_toArray, List.set_cons_zero, List.set_cons_succ, i64_w, i32_w]
                                                    rfl
                                                  refine take_ (i := 9) (N := some 89) (v := ?_) (a' := ?_) #[true, true, true, true, true, true, true, true, true, true, false, false, false] rfl rfl (take_ofW HT_.out HW_.out (by kernel_rfl)) (fun _ _ _ h => h) (Or.inl ⟨by rfl, ?_⟩) hHeld ?_ ?_
                                                  rotate_left
                                                  · rintro w' ⟨s0, s1, s2, s3, s4⟩
                                                    go_simp
                                                    with_reducible rfl
                                                  rotate_left
                                                  · simp only [Act.put, List.setIfInBounds_toArray, List.set_cons_zero, List.set_cons_succ, i64_w, i32_w]
                                                    rfl
                                                  refine pure_ (i := 10) (N := some 90) #[true, true, true, true, true, true, true, true, true, true, true, false, false] rfl rfl (any_of HT_.out (by kernel_rfl)) (fun _ _ _ h => h) (Or.inl ⟨by rfl, pA_⟩) pB_ ?_
                                                  refine pure_ (i := 11) (N := some 91) #[true, true, true, true, true, true, true, true, true, true, true, true, false] rfl rfl (any_of HT_.out (by kernel_rfl)) (fun _ _ _ h => h) (Or.inl ⟨by rfl, pA_⟩) pB_ ?_
                                                  refine last_ (i := 12) (N := none) #[true, true, true, true, true, true, true, true, true, true, true, true, true] rfl rfl (one_of HT_.out (by kernel_rfl)) (by decide) (fun K hK => ?_)
                                                  refine skip_ (w1 := ?_) (by rfl) rfl ?_ ?_
                                                  rotate_left
                                                  · go_simp
                                                    rfl
                                                  refine hK.out _ _ ?_
                                                  clear hK K
                                                  refine done_ (done_of HT_.out (by kernel_rfl)) ?_
                                                  have n0_ : Aside0 (Kd.R (Kd.int .i64) 3 (w65.setCell ⟨go62, (((rd_T32 t460 x32_2).f0) : Int).toNat, none⟩ (.int .i64 (wrap64 ((rd x8_2 ((rd_T32 t460 x32_2).f1)) - ((rd_T32 t460 x32_2).f2))))) w.heap.size (fun _ => True) (.slice (some ⟨go62, 0, none⟩) x8_2.length co66) y473) := ⟨qq2 HQ67.out⟩
                                                  have n1_ : Aside0 (Kd.R Kd.bool 4 (w65.setCell ⟨go62, (((rd_T32 t460 x32_2).f0) : Int).toNat, none⟩ (.int .i64 (wrap64 ((rd x8_2 ((rd_T32 t460 x32_2).f1)) - ((rd_T32 t460 x32_2).f2))))) w.heap.size (fun _ => True) (.slice (some ⟨go10, 0, none⟩) x9_2.length co10) x9_2) := ⟨by (with_reducible repeat (first | apply Kd.R_alloc | apply Kd.R_drewN | apply Kd.R_drew)); exact Kd.R_mono (Kd.R_far (p := ⟨go62, (((rd_T32 t460 x32_2).f0) : Int).toNat, none⟩) (Kd.R_types HO_9.out GG62.out (by decide)) (fun _ hk => hk.2) (.int .i64 (wrap64 ((rd x8_2 ((rd_T32 t460 x32_2).f1)) - ((rd_T32 t460 x32_2).f2))))) (fun _ hk => trivial)⟩
                                                  have n2_ : Aside0 (Kd.R k32 32 (w65.setCell ⟨go62, (((rd_T32 t460 x32_2).f0) : Int).toNat, none⟩ (.int .i64 (wrap64 ((rd x8_2 ((rd_T32 t460 x32_2).f1)) - ((rd_T32 t460 x32_2).f2))))) w.heap.size (fun k_ => k_ ≠ gb464) (.slice (some ad463) t460.length co21) t460) := ⟨by (with_reducible repeat (first | apply Kd.R_alloc | apply Kd.R_drewN | apply Kd.R_drew)); exact Kd.R_mono (Kd.R_far (p := ⟨go62, (((rd_T32 t460 x32_2).f0) : Int).toNat, none⟩) (Kd.R_types HO_30.out GG62.out (by decide)) (fun _ hk => hk.2) (.int .i64 (wrap64 ((rd x8_2 ((rd_T32 t460 x32_2).f1)) - ((rd_T32 t460 x32_2).f2))))) (fun _ hk => hk.1)⟩
                                                  have n3_ : Aside0 ((w65.setCell ⟨go62, (((rd_T32 t460 x32_2).f0) : Int).toNat, none⟩ (.int .i64 (wrap64 ((rd x8_2 ((rd_T32 t460 x32_2).f1)) - ((rd_T32 t460 x32_2).f2))))).heap[gb464]? = some (.cells #[.int .i64 ((rd_T32 t460 x32_2).f0), .int .i64 ((rd_T32 t460 x32_2).f1), .int .i64 ((rd_T32 t460 x32_2).f2), .int .i64 ((rd_T32 t460 x32_2).f3)] 32 (0, 0))) := ⟨qq53⟩
                                                  have n4_ : Aside0 (Below w.heap.size w (w65.setCell ⟨go62, (((rd_T32 t460 x32_2).f0) : Int).toNat, none⟩ (.int .i64 (wrap64 ((rd x8_2 ((rd_T32 t460 x32_2).f1)) - ((rd_T32 t460 x32_2).f2)))))) := ⟨qq34 HB.out GB62.out GE464.out⟩
                                                  (try clear HO_8)
                                                  (try clear HO_9)
                                                  (try clear HO_30)
                                                  (try clear BK464)
                                                  (try clear HB)
                                                  generalize (w65.setCell ⟨go62, (((rd_T32 t460 x32_2).f0) : Int).toNat, none⟩ (.int .i64 (wrap64 ((rd x8_2 ((rd_T32 t460 x32_2).f1)) - ((rd_T32 t460 x32_2).f2))))) = w68 at n0_ n1_ n2_ n3_ n4_ ⊢
                                                  have HO_8 := n0_
                                                  have HO_9 := n1_
                                                  have HO_30 := n2_
                                                  have BK464 := n3_
                                                  have HB := n4_
                                                  clear n0_ n1_ n2_ n3_ n4_
                                                  have hcz69_0 : w68.cell? ⟨gb464, 0, none⟩ = some (.int .i64 ((rd_T32 t460 x32_2).f0)) := (blk_cell BK464.out 0).trans rfl
                                                  have hcz69_1 : w68.cell? ⟨gb464, 1, none⟩ = some (.int .i64 ((rd_T32 t460 x32_2).f1)) := (blk_cell BK464.out 1).trans rfl
                                                  have hcz69_2 : w68.cell? ⟨gb464, 2, none⟩ = some (.int .i64 ((rd_T32 t460 x32_2).f2)) := (blk_cell BK464.out 2).trans rfl
                                                  have hcz69_3 : w68.cell? ⟨gb464, 3, none⟩ = some (.int .i64 ((rd_T32 t460 x32_2).f3)) := (blk_cell BK464.out 3).trans rfl
                                                  have hfz69_0 := blk_frozen BK464.out 0
                                                  have hfz69_1 := blk_frozen BK464.out 1
                                                  have hfz69_2 := blk_frozen BK464.out 2
                                                  have hfz69_3 := blk_frozen BK464.out 3
                                                  have p63 : 0 ≤ (((rd_T32 t460 x32_2).f0) : Int) := of_decide_eq_true qq3
                                                  have q63 : (((rd_T32 t460 x32_2).f0) : Int) < ((x9_2.length : Int) : Int) := of_decide_eq_true qq3
                                                  obtain ⟨hx63_0, hf63_0⟩ := Kd.R_celln false HO_9.out (((rd_T32 t460 x32_2).f0) : Int) p63 q63
                                                  replace p63 := eq_true p63
                                                  replace q63 := eq_true q63
                                                  obtain ⟨hy70_, hz70_⟩ := Kd.R_celln false HO_9.out (((rd_T32 t460 x32_2).f0) : Int) (of_decide_eq_true qq3) (of_decide_eq_true qq3)
                                                  have HP70 := Kd.R_putg HO_9.out (((rd_T32 t460 x32_2).f0) : Int) true
                                                  try go_wp2_with (first | ((with_reducible refine gate_store (t := 4) (p := 95) rfl ?_); refine store_event (t := 4) (p := 95) (v := ?vo_w71) (w1 := (w68.setCell ⟨go10, (((rd_T32 t460 x32_2).f0) : Int).toNat, none⟩ (.bool true))) ?hg ?ho ?hn ?hr ?_; (case ho => rfl); (case hg => rfl); (case hn => rfl); (case hr => exact qq16); intro w71 hw; have hg : w68.grownBy w71 (some go10) := (by rw [hw]; exact HP70.2); have hp_ : Kd.R Kd.bool 4 w71 w.heap.size (fun _ => True) (.slice (some ⟨go10, 0, none⟩) x9_2.length co10) y474 := (by rw [hw, Ny474.out]; exact HP70.1); clear HP70; have n0_ := Aside0.mk (Kd.R_over' (v := (.slice (some ⟨go10, 0, none⟩) x9_2.length co10)) (qq2 HO_8.out) (Kd.R_typed HO_9.out) (by decide) hg); have n1_ := Aside0.mk (hp_); have n2_ := Aside0.mk (Kd.R_over' (v := (.slice (some ⟨go10, 0, none⟩) x9_2.length co10)) (qq2 HO_30.out) (Kd.R_typed HO_9.out) (by decide) hg); have n3_ := Aside0.mk (blk_grown (g := gb464) (o := .cells #[.int .i64 ((rd_T32 t460 x32_2).f0), .int .i64 ((rd_T32 t460 x32_2).f1), .int .i64 ((rd_T32 t460 x32_2).f2), .int .i64 ((rd_T32 t460 x32_2).f3)] 32 (0, 0)) (qq23 BK464.out) hg (Kd.R_ne HO_9.out BK464.out (by decide))); have n4_ := Aside0.mk ((qq81 : Below w.heap.size w w71)); clear HO_8; clear HO_9; clear HO_30; clear BK464; clear HB; have HO_8 := n0_; have HO_9 := n1_; have HO_30 := n2_; have BK464 := n3_; have HB := n4_; clear n0_ n1_ n2_ n3_ n4_; clear hg hw hp_))
                                                  (try simp only [← hl9_2])
                                                  go_roundg kj24
                                                  case measure => have := HK1.out; have := HK2.out; have := HJ24.out; omega
                                                  case rel => exact ⟨(y473), (y474), (wrap64 (x32_2 + 1)), qq13, H', ⟨qq54 HK1.out HK2.out HJ24.out⟩, ⟨qq26 HO_8.out⟩, ⟨qq26 HO_9.out⟩, ⟨qq46⟩, ⟨qq4 HB.out GE464.out⟩⟩
                                                · rw [if_neg c61] at H
                                                  exact absurd H (by simp)
                                              · rw [if_neg c60] at H
                                                exact absurd H (by simp)
                                          · rw [if_neg c56] at H
                                            exact absurd H (by simp)
                                        · rw [if_neg c55] at H
                                          exact absurd H (by simp)
                                      · replace c54 := Bool.eq_false_iff.mpr c54
                                        subst c54
                                        have H1 : (impl_TreeHeights.l1 kj24 l1 l2 x8_2 x9_2 (l2.length : Int) x26_1 t460 (t460.length : Int) (wrap64 (x32_2 + 1))) = some (r1, r2) := by rw [if_neg (show ¬ (false = true) by decide)] at H; exact H
                                        clear H
                                        have H := H1
                                        clear H1
                                        have H' := Aside0.mk H
                                        clear H
                                        have hcz72_0 : wc.cell? ⟨gb464, 0, none⟩ = some (.int .i64 ((rd_T32 t460 x32_2).f0)) := (blk_cell BK464.out 0).trans rfl
                                        have hcz72_1 : wc.cell? ⟨gb464, 1, none⟩ = some (.int .i64 ((rd_T32 t460 x32_2).f1)) := (blk_cell BK464.out 1).trans rfl
                                        have hcz72_2 : wc.cell? ⟨gb464, 2, none⟩ = some (.int .i64 ((rd_T32 t460 x32_2).f2)) := (blk_cell BK464.out 2).trans rfl
                                        have hcz72_3 : wc.cell? ⟨gb464, 3, none⟩ = some (.int .i64 ((rd_T32 t460 x32_2).f3)) := (blk_cell BK464.out 3).trans rfl
                                        have hfz72_0 := blk_frozen BK464.out 0
                                        have hfz72_1 := blk_frozen BK464.out 1
                                        have hfz72_2 := blk_frozen BK464.out 2
                                        have hfz72_3 := blk_frozen BK464.out 3
                                        have p470 : 0 ≤ (((rd_T32 t460 x32_2).f1) : Int) := of_decide_eq_true qq3
                                        have q470 : ((rd_T32 t460 x32_2).f1) < (x9_2.length : Int) := of_decide_eq_true qq3
                                        obtain ⟨ad470, e470, hx470_0⟩ := Kd.at_bool (Kd.R_reads' HO_9.out).2.2 ((rd_T32 t460 x32_2).f1) p470 q470
                                        (try rw [← Nbq53.out] at hx470_0)
                                        obtain rfl : (⟨go10, 0, none⟩ : Addr) = ad470 := (by injection e470)
                                        (first | simp only [add_plain] at hx470_0 | simp only [add_at] at hx470_0 | simp only [Addr.add, Nat.zero_add] at hx470_0 | skip)
                                        replace p470 := eq_true p470
                                        replace q470 := eq_true q470
                                        go_wp2
                                        (try simp only [← hl9_2])
                                        go_roundg kj24
                                        case measure => have := HK1.out; have := HK2.out; have := HJ24.out; omega
                                        case rel => exact ⟨(x8_2), (x9_2), (wrap64 (x32_2 + 1)), qq13, H', ⟨qq54 HK1.out HK2.out HJ24.out⟩, ⟨qq26 HO_8.out⟩, ⟨qq26 HO_9.out⟩, ⟨qq46⟩, ⟨qq4 HB.out GE464.out⟩⟩
                                    · rw [if_neg c52] at H
                                      exact absurd H (by simp)
                                  · rw [if_neg c51] at H
                                    exact absurd H (by simp)
                          · rw [if_neg c24] at H
                            exact absurd H (by simp)
                        · rw [if_neg c23] at H
                          exact absurd H (by simp)
                      · rw [if_neg c22] at H
                        have c22b0 : decide (x32_2 < (t460.length : Int)) = false := decide_eq_false c22
                        clear c22
                        have H' := Aside0.mk H
                        clear H
                        go_wp2
                        (try simp only [← hl9_1, ← hl9_2])
                        go_roundg k2
                        case measure => have := HK1.out; have := HK2.out; omega
                        case rel => exact ⟨(x8_2), (x9_2), (wrap64 (x26_1 + 1)), qq13, H', ⟨qq76 HK1.out HK2.out⟩, ⟨qq26 HO_8.out⟩, ⟨qq26 HO_9.out⟩, ⟨qq1⟩⟩
                · rw [if_neg c18] at H
                  have c18b0 : decide (x26_1 < (l2.length : Int)) = false := decide_eq_false c18
                  clear c18
                  simp only [Option.some.injEq, Prod.mk.injEq] at H
                  obtain ⟨rfl, rfl⟩ := H
                  go_wp2
                  go_ret2
                  exact ⟨_, qq11, qq2 HO_8.out, qq1⟩
          · rw [if_neg c9] at H
            exact absurd H (by simp)
        · rw [if_neg c8] at H
          exact absurd H (by simp)
      · rw [if_neg c7] at H
        exact absurd H (by simp)
    · rw [if_neg c6] at H
      exact absurd H (by simp)
  · replace c5 := Bool.eq_false_iff.mpr c5
    subst c5
    have H1 : (some ((([] : List Int)), false)) = some (r1, r2) := by rw [if_neg (show ¬ (false = true) by decide)] at H; exact H
    clear H
    have H := H1
    clear H1
    obtain ⟨y450, hy450⟩ : ∃ y_ : List Int, y_ = (([] : List Int)) := ⟨_, rfl⟩
    replace H : (some (y450, false)) = some (r1, r2) := by first | (rw [hy450]; with_reducible exact H) | (have H2_ := (Option.bind_some _ _).symm.trans H; rw [hy450]; with_reducible exact H2_) | (have H2_ := (Option.bind_some _ _).symm.trans H; with_reducible exact H2_) | with_reducible exact H | (rw [hy450]; exact H) | exact H
    have Ny450 := Aside0.mk hy450
    clear hy450
    simp only [Option.some.injEq, Prod.mk.injEq] at H
    obtain ⟨rfl, rfl⟩ := H
    go_enter Try.func11, Try.ntmps11
    go_wp2_with (first | ((with_reducible refine gate_callee (f := 28) rfl ?_); refine goesL_ (some 15) rfl rfl Try.func28 (by kernel_rfl) rfl #[.int .i64 a0, .slice A1 l1.length c1, .slice A2 l2.length c2] rfl qq5 ?_; (with_reducible refine (impl_TreeIs.calls k a0 _ _ l1 _ _ l2 false _ ?side1 ?side2 ?side3 ?side4 A4.out).mono ?_); (case side1 => exact qq15 HR1.out); (case side2 => exact HC1.out); (case side3 => exact qq15 HR2.out); (case side4 => exact HC2.out); rintro e w73 ⟨rfl, hb⟩; refine ⟨_, rfl, ?_⟩; have n0_ := Aside0.mk (below_step qq1 hb); clear HB; have HB := n0_; clear n0_; (try clear hb); (try clear hb2); (try clear hk); (try clear hi)) | ((with_reducible refine gate_dst (N := 17) rfl ?_); refine Kd.R_lit (Kd.int .i64) _ 3 ?hg (N := 17) ?hd (xs := ([] : List Int)) (inner := []) (ok := fun _ => True) (okp := fun _ => True) ?hr ?hp (fun _ hk => hk) trivial (Below.refl _ _) (Nat.le_refl _) (by simp) ?_; (case hd => rfl); (case hg => rfl); (case hr => exact qq16); (case hp => exact (Reps.none _ _)); intro v451 w74 ho75 hb hg_ hnew_; clear hg_ hnew_; (first | rw [← Ny450.out] at ho75 | (simp only [Int.reduceToNat] at ho75; rw [← Ny450.out] at ho75)); have n0_ := Aside0.mk (Kd.R_lower ho75 (below_size qq1)); have n1_ := Aside0.mk (below_step qq1 hb); clear HB; have HO452 := n0_; have HB := n1_; clear n0_ n1_; clear hb ho75))
    go_ret2
    exact ⟨_, qq11, qq2 HO452.out, qq1⟩

end Go.Proofs.Ytmcfhmflncghiaa.Q
namespace Go.Proofs.Ytmcfhmflncghiaa.Q
open Go.RowKit Go.Proofs.YtmcfhmflncghiaaW.PrintWords Go.Proofs.YtmcfhmflncghiaaW.PrintLast Go.Proofs.YtmcfhmflncghiaaW.PrintMore
attribute [local go_sem] max2_int min2_int max_two min_two max_three min_three max_four min_four
set_option linter.unusedVariables false
set_option linter.unusedSimpArgs false

/-! ### impl_NetFits: function 12 -/
mutual
def impl_NetFits.j0 : Nat → List (S32) → List Int → Bool → Option (Bool)
  | 0, _, _, _ => none
  | k + 1, x1, x2, x18 => if x18 = true then (some false) else (impl_NetFits.l0 k x2 x1 (x1.length : Int) 0)
def impl_NetFits.l0 : Nat → List Int → List (S32) → Int → Int → Option (Bool)
  | 0, _, _, _, _ => none
  | k + 1, x2, x19, x20, x21 => if x21 < x20 then (if 0 ≤ x21 then (if x21 < (x19.length : Int) then (if 0 ≤ ((rd_T32 x19 x21).f1) then (if ((rd_T32 x19 x21).f1) < (x2.length : Int) then (if 0 ≤ ((rd_T32 x19 x21).f0) then (if ((rd_T32 x19 x21).f0) < (x2.length : Int) then (if (wrap64 ((rd x2 ((rd_T32 x19 x21).f1)) - (rd x2 ((rd_T32 x19 x21).f0)))) = ((rd_T32 x19 x21).f2) then (impl_NetFits.l0 k x2 x19 x20 (wrap64 (x21 + 1))) else (some false)) else (none)) else (none)) else (none)) else (none)) else (none)) else (none)) else (some true)
end
def impl_NetFits.f (k : Nat) (a0 : Int) (l1 : List (S32)) (l2 : List Int) : Option (Bool) := (impl_NetValid.f k a0 l1).bind fun t477 => (if t477 = true then ((impl_heightsValid.f k a0 l2).bind fun t478 => (impl_NetFits.j0 k l1 l2 (!t478))) else (impl_NetFits.j0 k l1 l2 true))
set_option maxHeartbeats 8000000 in
set_option maxRecDepth 100000 in
theorem impl_NetFits.calls (k : Nat) (a0 : Int) (A1 : Option Addr) (c1 : Nat) (l1 : List (S32)) (A2 : Option Addr) (c2 : Nat) (l2 : List Int) (r : Bool) (w : World) (hr1 : Kd.C k32 w A1 l1.length l1) (hc1 : l1.length ≤ c1) (hr2 : Kd.C (Kd.int .i64) w A2 l2.length l2) (hc2 : l2.length ≤ c2) (h : impl_NetFits.f k a0 l1 l2 = some r) :
    Calls Try.prog 12 #[.int .i64 a0, .slice A1 l1.length c1, .slice A2 l2.length c2] w fun e w' => e = .returned (.bool r) ∧ Below w.heap.size w w' := by
  have hu32 := Try.underlying32
  have HR1 := Aside0.mk hr1
  have HC1 := Aside0.mk hc1
  clear hr1 hc1
  have HR2 := Aside0.mk hr2
  have HC2 := Aside0.mk hc2
  clear hr2 hc2
  have HB := Aside0.mk (Below.refl w.heap.size w)
  have H : ((impl_NetValid.f k a0 l1).bind fun t477 => (if t477 = true then ((impl_heightsValid.f k a0 l2).bind fun t478 => (impl_NetFits.j0 k l1 l2 (!t478))) else (impl_NetFits.j0 k l1 l2 true))) = some r := h
  clear h
  have HC4 := Aside0.mk H
  clear H
  go_enter Try.func12, Try.ntmps12
  go_upto_region 1 with (fail)
  repeat (go_quiet (fail); go_upto_region 1 with (fail))
  go_cut [18] (fun v18 wc => ∃ (kq : Nat) (x18_3 : Bool), v18 = .bool x18_3 ∧ Aside0 (impl_NetFits.j0 kq l1 l2 x18_3 = some r) ∧ Aside0 (kq ≤ k) ∧ Aside0 (Below w.heap.size w wc))
  case first =>
    have H := HC4.out
    clear HC4
    replace H := Option.bind_eq_some_iff.mp H
    obtain ⟨t477, A50, H⟩ := H
    replace H : (if t477 = true then ((impl_heightsValid.f k a0 l2).bind fun t478 => (impl_NetFits.j0 k l1 l2 (!t478))) else (impl_NetFits.j0 k l1 l2 true)) = some r := H
    have A5 := Aside0.mk A50
    clear A50
    by_cases c6 : t477 = true
    · subst c6
      have H1 : ((impl_heightsValid.f k a0 l2).bind fun t478 => (impl_NetFits.j0 k l1 l2 (!t478))) = some r := by rw [if_pos rfl] at H; exact H
      clear H
      have H := H1
      clear H1
      replace H := Option.bind_eq_some_iff.mp H
      obtain ⟨t478, A70, H⟩ := H
      replace H : (impl_NetFits.j0 k l1 l2 (!t478)) = some r := H
      have A7 := Aside0.mk A70
      clear A70
      have H' := Aside0.mk H
      clear H
      go_wp2_with (first | (go_at_call 23; (with_reducible refine (impl_NetValid.calls k a0 _ _ l1 true _ ?side1 ?side2 A5.out).mono ?_); (case side1 => exact qq35); (case side2 => exact HC1.out); rintro e w8 ⟨rfl, hb⟩; have n0_ := Aside0.mk (below_step qq1 hb); clear HB; have HB := n0_; clear n0_; (try clear hb); (try clear hb2); (try clear hk); (try clear hi)) | (go_at_call 29; (with_reducible refine (impl_heightsValid.calls k a0 _ _ l2 t478 _ ?side1 ?side2 A7.out).mono ?_); (case side1 => exact qq10 HR2.out HB.out); (case side2 => exact HC2.out); rintro e w' ⟨rfl, ⟨nd, rfl⟩⟩; (try first | exact ⟨rfl, _, World.drewN_drewN _ _ _⟩ | exact ⟨rfl, _, Eq.trans (World.drewN_drewN _ _ _) (congrArg (World.drewN _) (Nat.add_assoc _ _ _))⟩)))
      repeat (go_quiet (first | (go_at_call 23; (with_reducible refine (impl_NetValid.calls k a0 _ _ l1 true _ ?side1 ?side2 A5.out).mono ?_); (case side1 => exact qq35); (case side2 => exact HC1.out); rintro e w8 ⟨rfl, hb⟩; have n0_ := Aside0.mk (below_step qq1 hb); clear HB; have HB := n0_; clear n0_; (try clear hb); (try clear hb2); (try clear hk); (try clear hi)) | (go_at_call 29; (with_reducible refine (impl_heightsValid.calls k a0 _ _ l2 t478 _ ?side1 ?side2 A7.out).mono ?_); (case side1 => exact qq10 HR2.out HB.out); (case side2 => exact HC2.out); rintro e w' ⟨rfl, ⟨nd, rfl⟩⟩; (try first | exact ⟨rfl, _, World.drewN_drewN _ _ _⟩ | exact ⟨rfl, _, Eq.trans (World.drewN_drewN _ _ _) (congrArg (World.drewN _) (Nat.add_assoc _ _ _))⟩))); try go_wp2_with (first | (go_at_call 23; (with_reducible refine (impl_NetValid.calls k a0 _ _ l1 true _ ?side1 ?side2 A5.out).mono ?_); (case side1 => exact qq35); (case side2 => exact HC1.out); rintro e w8 ⟨rfl, hb⟩; have n0_ := Aside0.mk (below_step qq1 hb); clear HB; have HB := n0_; clear n0_; (try clear hb); (try clear hb2); (try clear hk); (try clear hi)) | (go_at_call 29; (with_reducible refine (impl_heightsValid.calls k a0 _ _ l2 t478 _ ?side1 ?side2 A7.out).mono ?_); (case side1 => exact qq10 HR2.out HB.out); (case side2 => exact HC2.out); rintro e w' ⟨rfl, ⟨nd, rfl⟩⟩; (try first | exact ⟨rfl, _, World.drewN_drewN _ _ _⟩ | exact ⟨rfl, _, Eq.trans (World.drewN_drewN _ _ _) (congrArg (World.drewN _) (Nat.add_assoc _ _ _))⟩))))
      go_meet
      case rel => exact ⟨_, (!t478), qq13, H', ⟨qq37⟩, ⟨qq1⟩⟩
    · replace c6 := Bool.eq_false_iff.mpr c6
      subst c6
      have H1 : (impl_NetFits.j0 k l1 l2 true) = some r := by rw [if_neg (show ¬ (false = true) by decide)] at H; exact H
      clear H
      have H := H1
      clear H1
      have H' := Aside0.mk H
      clear H
      go_wp2_with (first | (go_at_call 23; (with_reducible refine (impl_NetValid.calls k a0 _ _ l1 false _ ?side1 ?side2 A5.out).mono ?_); (case side1 => exact qq35); (case side2 => exact HC1.out); rintro e w9 ⟨rfl, hb⟩; have n0_ := Aside0.mk (below_step qq1 hb); clear HB; have HB := n0_; clear n0_; (try clear hb); (try clear hb2); (try clear hk); (try clear hi)))
      repeat (go_quiet (first | (go_at_call 23; (with_reducible refine (impl_NetValid.calls k a0 _ _ l1 false _ ?side1 ?side2 A5.out).mono ?_); (case side1 => exact qq35); (case side2 => exact HC1.out); rintro e w9 ⟨rfl, hb⟩; have n0_ := Aside0.mk (below_step qq1 hb); clear HB; have HB := n0_; clear n0_; (try clear hb); (try clear hb2); (try clear hk); (try clear hi))); try go_wp2_with (first | (go_at_call 23; (with_reducible refine (impl_NetValid.calls k a0 _ _ l1 false _ ?side1 ?side2 A5.out).mono ?_); (case side1 => exact qq35); (case side2 => exact HC1.out); rintro e w9 ⟨rfl, hb⟩; have n0_ := Aside0.mk (below_step qq1 hb); clear HB; have HB := n0_; clear n0_; (try clear hb); (try clear hb2); (try clear hk); (try clear hi))))
      go_meet
      case rel => exact ⟨_, (true), qq13, H', ⟨qq37⟩, ⟨qq1⟩⟩
  case rest =>
    clear HC4
    try clear c1
    try clear c2
    try clear p2
    try clear c6
    obtain ⟨kq, x18_3, rfl, HA, HJ3, HB⟩ := hcut
    cases kq with
    | zero => exact absurd HA.out (by simp [impl_NetFits.j0])
    | succ kj3 =>
      have H := HA.out
      clear HA
      simp only [impl_NetFits.j0] at H
      by_cases c10 : x18_3 = true
      · subst c10
        have H1 : (some false) = some r := by rw [if_pos rfl] at H; exact H
        clear H
        have H := H1
        clear H1
        obtain rfl := Option.some.inj H
        go_wp2
        repeat (go_quiet (fail); try go_wp2)
        go_ret
        exact ⟨qq11, qq1⟩
      · replace c10 := Bool.eq_false_iff.mpr c10
        subst c10
        have H1 : (impl_NetFits.l0 kj3 l2 l1 (l1.length : Int) 0) = some r := by rw [if_neg (show ¬ (false = true) by decide)] at H; exact H
        clear H
        have H := H1
        clear H1
        have H' := Aside0.mk H
        clear H
        go_wp2
        repeat (go_quiet (fail); try go_wp2)
        go_loopg [21] kj3 (fun kq v21 w' => ∃ (x21_2 : Int), v21 = .int .i64 x21_2 ∧ Aside0 (impl_NetFits.l0 kq l2 l1 (l1.length : Int) x21_2 = some r) ∧ Aside0 (kq ≤ kj3) ∧ Aside0 (Below w.heap.size w w'))
        case atStart => exact ⟨(0), qq13, H', ⟨Nat.le_refl _⟩, ⟨qq1⟩⟩
        case round =>
          clear H'
          try clear c1
          try clear c2
          try clear p2
          try clear c6
          try clear c10
          try clear p2
          obtain ⟨x21_2, rfl, HA, HK2, HB⟩ := hrel
          cases gk with
          | zero => exact absurd HA.out (by simp [impl_NetFits.l0])
          | succ k2 =>
            have H := HA.out
            clear HA
            simp only [impl_NetFits.l0] at H
            by_cases c11 : x21_2 < (l1.length : Int)
            · rw [if_pos c11] at H
              have c11b0 : decide (x21_2 < (l1.length : Int)) = true := decide_eq_true c11
              clear c11
              by_cases c12 : 0 ≤ x21_2
              · rw [if_pos c12] at H
                have c12b0 : decide (0 ≤ x21_2) = true := decide_eq_true c12
                clear c12
                by_cases c13 : x21_2 < (l1.length : Int)
                · rw [if_pos c13] at H
                  have c13b0 : decide (x21_2 < (l1.length : Int)) = true := decide_eq_true c13
                  clear c13
                  by_cases c14 : 0 ≤ ((rd_T32 l1 x21_2).f1)
                  · rw [if_pos c14] at H
                    have c14b0 : decide (0 ≤ ((rd_T32 l1 x21_2).f1)) = true := decide_eq_true c14
                    clear c14
                    by_cases c15 : ((rd_T32 l1 x21_2).f1) < (l2.length : Int)
                    · rw [if_pos c15] at H
                      have c15b0 : decide (((rd_T32 l1 x21_2).f1) < (l2.length : Int)) = true := decide_eq_true c15
                      clear c15
                      by_cases c16 : 0 ≤ ((rd_T32 l1 x21_2).f0)
                      · rw [if_pos c16] at H
                        have c16b0 : decide (0 ≤ ((rd_T32 l1 x21_2).f0)) = true := decide_eq_true c16
                        clear c16
                        by_cases c17 : ((rd_T32 l1 x21_2).f0) < (l2.length : Int)
                        · rw [if_pos c17] at H
                          have c17b0 : decide (((rd_T32 l1 x21_2).f0) < (l2.length : Int)) = true := decide_eq_true c17
                          clear c17
                          by_cases c18 : (wrap64 ((rd l2 ((rd_T32 l1 x21_2).f1)) - (rd l2 ((rd_T32 l1 x21_2).f0)))) = ((rd_T32 l1 x21_2).f2)
                          · rw [if_pos c18] at H
                            have c18b0 : ((wrap64 ((rd l2 ((rd_T32 l1 x21_2).f1)) - (rd l2 ((rd_T32 l1 x21_2).f0)))) == ((rd_T32 l1 x21_2).f2)) = true := beq_iff_eq.mpr c18
                            have c18b1 : ((wrap64 ((rd l2 ((rd_T32 l1 x21_2).f1)) - (rd l2 ((rd_T32 l1 x21_2).f0)))) != ((rd_T32 l1 x21_2).f2)) = false := bne_eq_false_iff_eq.mpr c18
                            clear c18
                            have H' := Aside0.mk H
                            clear H
                            have p479 : 0 ≤ (x21_2 : Int) := of_decide_eq_true qq3
                            have q479 : x21_2 < (l1.length : Int) := of_decide_eq_true qq3
                            obtain ⟨ad479, e479, hx479_0, hx479_1, hx479_2, hx479_3⟩ := at_T32 HR1.out x21_2 p479 q479
                            cases e479
                            replace hx479_0 := (HB.out.cell (World.block_lt_of_cell? w _ hx479_0)).trans hx479_0
                            replace hx479_1 := (HB.out.cell (World.block_lt_of_cell? w _ hx479_1)).trans hx479_1
                            replace hx479_2 := (HB.out.cell (World.block_lt_of_cell? w _ hx479_2)).trans hx479_2
                            replace hx479_3 := (HB.out.cell (World.block_lt_of_cell? w _ hx479_3)).trans hx479_3
                            replace p479 := eq_true p479
                            replace q479 := eq_true q479
                            go_wp2_with (first | ((with_reducible refine gate_dst (N := 8) rfl ?_); refine box_event ?hg (N := 8) ?hd (cs := #[.int .i64 0, .int .i64 0, .int .i64 0, .int .i64 0]) (t := 32) ?hr ?_; (case hd => rfl); (case hg => rfl); (case hr => exact qq16); intro gb480 hg w19 hbox hb; have n0_ := Aside0.mk (below_step qq1 hb); have n1_ := Aside0.mk (hbox); have n2_ := Aside0.mk ((qq33 : w.heap.size ≤ gb480)); have n3_ := Aside0.mk ((qq33 : w.heap.size ≤ gb480)); clear HB; have HB := n0_; have BK480 := n1_; have GW480 := n2_; have GE480 := n3_; clear n0_ n1_ n2_ n3_; clear hb hbox hg; have hcz20_0 : w19.cell? ⟨gb480, 0, none⟩ = some (.int .i64 0) := (blk_cell BK480.out 0).trans rfl; have hcz20_1 : w19.cell? ⟨gb480, 1, none⟩ = some (.int .i64 0) := (blk_cell BK480.out 1).trans rfl; have hcz20_2 : w19.cell? ⟨gb480, 2, none⟩ = some (.int .i64 0) := (blk_cell BK480.out 2).trans rfl; have hcz20_3 : w19.cell? ⟨gb480, 3, none⟩ = some (.int .i64 0) := (blk_cell BK480.out 3).trans rfl; have hfz20_0 := blk_frozen BK480.out 0; have hfz20_1 := blk_frozen BK480.out 1; have hfz20_2 := blk_frozen BK480.out 2; have hfz20_3 := blk_frozen BK480.out 3; have p481 : 0 ≤ (((rd_T32 l1 x21_2).f1) : Int) := of_decide_eq_true qq3; have q481 : ((rd_T32 l1 x21_2).f1) < (l2.length : Int) := of_decide_eq_true qq3; obtain ⟨ad481, e481, hx481_0⟩ := Kd.at_int HR2.out ((rd_T32 l1 x21_2).f1) p481 q481; cases e481; have hn481_0 : ad481.block ≠ gb480 := Nat.ne_of_lt (Nat.lt_of_lt_of_le qq18 GW480.out); have hn481_1 : ad481.block ≠ gb480 := Nat.ne_of_lt (Nat.lt_of_lt_of_le qq18 GW480.out); have hn481_2 : ad481.block ≠ gb480 := Nat.ne_of_lt (Nat.lt_of_lt_of_le qq18 GW480.out); have hn481_3 : ad481.block ≠ gb480 := Nat.ne_of_lt (Nat.lt_of_lt_of_le qq18 GW480.out); replace hx481_0 := (HB.out.cell (World.block_lt_of_cell? w _ hx481_0)).trans hx481_0; replace hx481_0 := (cell_far (p := ⟨gb480, 0, none⟩) qq38 (.int .i64 ((rd_T32 l1 x21_2).f0))).trans hx481_0; replace hx481_0 := (cell_far (p := ⟨gb480, 1, none⟩) qq39 (.int .i64 ((rd_T32 l1 x21_2).f1))).trans hx481_0; replace hx481_0 := (cell_far (p := ⟨gb480, 2, none⟩) qq40 (.int .i64 ((rd_T32 l1 x21_2).f2))).trans hx481_0; replace hx481_0 := (cell_far (p := ⟨gb480, 3, none⟩) qq41 (.int .i64 ((rd_T32 l1 x21_2).f3))).trans hx481_0; (try have hy481_0 := fun (n_ : Nat) => (show ((((((w19.drewN n_).setCell ⟨gb480, 0, none⟩ (.int .i64 ((rd_T32 l1 x21_2).f0))).setCell ⟨gb480, 1, none⟩ (.int .i64 ((rd_T32 l1 x21_2).f1))).setCell ⟨gb480, 2, none⟩ (.int .i64 ((rd_T32 l1 x21_2).f2))).setCell ⟨gb480, 3, none⟩ (.int .i64 ((rd_T32 l1 x21_2).f3)))).cell? _ = some _ from hx481_0)); clear hn481_0; clear hn481_1; clear hn481_2; clear hn481_3; replace p481 := eq_true p481; replace q481 := eq_true q481; have p482 : 0 ≤ (((rd_T32 l1 x21_2).f0) : Int) := of_decide_eq_true qq3; have q482 : ((rd_T32 l1 x21_2).f0) < (l2.length : Int) := of_decide_eq_true qq3; obtain ⟨ad482, e482, hx482_0⟩ := Kd.at_int HR2.out ((rd_T32 l1 x21_2).f0) p482 q482; obtain rfl : ad481 = ad482 := (by injection e482); have hn482_0 : ad481.block ≠ gb480 := Nat.ne_of_lt (Nat.lt_of_lt_of_le qq19 GW480.out); have hn482_1 : ad481.block ≠ gb480 := Nat.ne_of_lt (Nat.lt_of_lt_of_le qq19 GW480.out); have hn482_2 : ad481.block ≠ gb480 := Nat.ne_of_lt (Nat.lt_of_lt_of_le qq19 GW480.out); have hn482_3 : ad481.block ≠ gb480 := Nat.ne_of_lt (Nat.lt_of_lt_of_le qq19 GW480.out); replace hx482_0 := (HB.out.cell (World.block_lt_of_cell? w _ hx482_0)).trans hx482_0; replace hx482_0 := (cell_far (p := ⟨gb480, 0, none⟩) qq42 (.int .i64 ((rd_T32 l1 x21_2).f0))).trans hx482_0; replace hx482_0 := (cell_far (p := ⟨gb480, 1, none⟩) qq43 (.int .i64 ((rd_T32 l1 x21_2).f1))).trans hx482_0; replace hx482_0 := (cell_far (p := ⟨gb480, 2, none⟩) qq44 (.int .i64 ((rd_T32 l1 x21_2).f2))).trans hx482_0; replace hx482_0 := (cell_far (p := ⟨gb480, 3, none⟩) qq45 (.int .i64 ((rd_T32 l1 x21_2).f3))).trans hx482_0; (try have hy482_0 := fun (n_ : Nat) => (show ((((((w19.drewN n_).setCell ⟨gb480, 0, none⟩ (.int .i64 ((rd_T32 l1 x21_2).f0))).setCell ⟨gb480, 1, none⟩ (.int .i64 ((rd_T32 l1 x21_2).f1))).setCell ⟨gb480, 2, none⟩ (.int .i64 ((rd_T32 l1 x21_2).f2))).setCell ⟨gb480, 3, none⟩ (.int .i64 ((rd_T32 l1 x21_2).f3)))).cell? _ = some _ from hx482_0)); clear hn482_0; clear hn482_1; clear hn482_2; clear hn482_3; replace p482 := eq_true p482; replace q482 := eq_true q482))
                            repeat (go_quiet (first | ((with_reducible refine gate_dst (N := 8) rfl ?_); refine box_event ?hg (N := 8) ?hd (cs := #[.int .i64 0, .int .i64 0, .int .i64 0, .int .i64 0]) (t := 32) ?hr ?_; (case hd => rfl); (case hg => rfl); (case hr => exact qq16); intro gb480 hg w19 hbox hb; have n0_ := Aside0.mk (below_step qq1 hb); have n1_ := Aside0.mk (hbox); have n2_ := Aside0.mk ((qq33 : w.heap.size ≤ gb480)); have n3_ := Aside0.mk ((qq33 : w.heap.size ≤ gb480)); clear HB; have HB := n0_; have BK480 := n1_; have GW480 := n2_; have GE480 := n3_; clear n0_ n1_ n2_ n3_; clear hb hbox hg; have hcz20_0 : w19.cell? ⟨gb480, 0, none⟩ = some (.int .i64 0) := (blk_cell BK480.out 0).trans rfl; have hcz20_1 : w19.cell? ⟨gb480, 1, none⟩ = some (.int .i64 0) := (blk_cell BK480.out 1).trans rfl; have hcz20_2 : w19.cell? ⟨gb480, 2, none⟩ = some (.int .i64 0) := (blk_cell BK480.out 2).trans rfl; have hcz20_3 : w19.cell? ⟨gb480, 3, none⟩ = some (.int .i64 0) := (blk_cell BK480.out 3).trans rfl; have hfz20_0 := blk_frozen BK480.out 0; have hfz20_1 := blk_frozen BK480.out 1; have hfz20_2 := blk_frozen BK480.out 2; have hfz20_3 := blk_frozen BK480.out 3; have p481 : 0 ≤ (((rd_T32 l1 x21_2).f1) : Int) := of_decide_eq_true qq3; have q481 : ((rd_T32 l1 x21_2).f1) < (l2.length : Int) := of_decide_eq_true qq3; obtain ⟨ad481, e481, hx481_0⟩ := Kd.at_int HR2.out ((rd_T32 l1 x21_2).f1) p481 q481; cases e481; have hn481_0 : ad481.block ≠ gb480 := Nat.ne_of_lt (Nat.lt_of_lt_of_le qq18 GW480.out); have hn481_1 : ad481.block ≠ gb480 := Nat.ne_of_lt (Nat.lt_of_lt_of_le qq18 GW480.out); have hn481_2 : ad481.block ≠ gb480 := Nat.ne_of_lt (Nat.lt_of_lt_of_le qq18 GW480.out); have hn481_3 : ad481.block ≠ gb480 := Nat.ne_of_lt (Nat.lt_of_lt_of_le qq18 GW480.out); replace hx481_0 := (HB.out.cell (World.block_lt_of_cell? w _ hx481_0)).trans hx481_0; replace hx481_0 := (cell_far (p := ⟨gb480, 0, none⟩) qq38 (.int .i64 ((rd_T32 l1 x21_2).f0))).trans hx481_0; replace hx481_0 := (cell_far (p := ⟨gb480, 1, none⟩) qq39 (.int .i64 ((rd_T32 l1 x21_2).f1))).trans hx481_0; replace hx481_0 := (cell_far (p := ⟨gb480, 2, none⟩) qq40 (.int .i64 ((rd_T32 l1 x21_2).f2))).trans hx481_0; replace hx481_0 := (cell_far (p := ⟨gb480, 3, none⟩) qq41 (.int .i64 ((rd_T32 l1 x21_2).f3))).trans hx481_0; (try have hy481_0 := fun (n_ : Nat) => (show ((((((w19.drewN n_).setCell ⟨gb480, 0, none⟩ (.int .i64 ((rd_T32 l1 x21_2).f0))).setCell ⟨gb480, 1, none⟩ (.int .i64 ((rd_T32 l1 x21_2).f1))).setCell ⟨gb480, 2, none⟩ (.int .i64 ((rd_T32 l1 x21_2).f2))).setCell ⟨gb480, 3, none⟩ (.int .i64 ((rd_T32 l1 x21_2).f3)))).cell? _ = some _ from hx481_0)); clear hn481_0; clear hn481_1; clear hn481_2; clear hn481_3; replace p481 := eq_true p481; replace q481 := eq_true q481; have p482 : 0 ≤ (((rd_T32 l1 x21_2).f0) : Int) := of_decide_eq_true qq3; have q482 : ((rd_T32 l1 x21_2).f0) < (l2.length : Int) := of_decide_eq_true qq3; obtain ⟨ad482, e482, hx482_0⟩ := Kd.at_int HR2.out ((rd_T32 l1 x21_2).f0) p482 q482; obtain rfl : ad481 = ad482 := (by injection e482); have hn482_0 : ad481.block ≠ gb480 := Nat.ne_of_lt (Nat.lt_of_lt_of_le qq19 GW480.out); have hn482_1 : ad481.block ≠ gb480 := Nat.ne_of_lt (Nat.lt_of_lt_of_le qq19 GW480.out); have hn482_2 : ad481.block ≠ gb480 := Nat.ne_of_lt (Nat.lt_of_lt_of_le qq19 GW480.out); have hn482_3 : ad481.block ≠ gb480 := Nat.ne_of_lt (Nat.lt_of_lt_of_le qq19 GW480.out); replace hx482_0 := (HB.out.cell (World.block_lt_of_cell? w _ hx482_0)).trans hx482_0; replace hx482_0 := (cell_far (p := ⟨gb480, 0, none⟩) qq42 (.int .i64 ((rd_T32 l1 x21_2).f0))).trans hx482_0; replace hx482_0 := (cell_far (p := ⟨gb480, 1, none⟩) qq43 (.int .i64 ((rd_T32 l1 x21_2).f1))).trans hx482_0; replace hx482_0 := (cell_far (p := ⟨gb480, 2, none⟩) qq44 (.int .i64 ((rd_T32 l1 x21_2).f2))).trans hx482_0; replace hx482_0 := (cell_far (p := ⟨gb480, 3, none⟩) qq45 (.int .i64 ((rd_T32 l1 x21_2).f3))).trans hx482_0; (try have hy482_0 := fun (n_ : Nat) => (show ((((((w19.drewN n_).setCell ⟨gb480, 0, none⟩ (.int .i64 ((rd_T32 l1 x21_2).f0))).setCell ⟨gb480, 1, none⟩ (.int .i64 ((rd_T32 l1 x21_2).f1))).setCell ⟨gb480, 2, none⟩ (.int .i64 ((rd_T32 l1 x21_2).f2))).setCell ⟨gb480, 3, none⟩ (.int .i64 ((rd_T32 l1 x21_2).f3)))).cell? _ = some _ from hx482_0)); clear hn482_0; clear hn482_1; clear hn482_2; clear hn482_3; replace p482 := eq_true p482; replace q482 := eq_true q482)); try go_wp2_with (first | ((with_reducible refine gate_dst (N := 8) rfl ?_); refine box_event ?hg (N := 8) ?hd (cs := #[.int .i64 0, .int .i64 0, .int .i64 0, .int .i64 0]) (t := 32) ?hr ?_; (case hd => rfl); (case hg => rfl); (case hr => exact qq16); intro gb480 hg w19 hbox hb; have n0_ := Aside0.mk (below_step qq1 hb); have n1_ := Aside0.mk (hbox); have n2_ := Aside0.mk ((qq33 : w.heap.size ≤ gb480)); have n3_ := Aside0.mk ((qq33 : w.heap.size ≤ gb480)); clear HB; have HB := n0_; have BK480 := n1_; have GW480 := n2_; have GE480 := n3_; clear n0_ n1_ n2_ n3_; clear hb hbox hg; have hcz20_0 : w19.cell? ⟨gb480, 0, none⟩ = some (.int .i64 0) := (blk_cell BK480.out 0).trans rfl; have hcz20_1 : w19.cell? ⟨gb480, 1, none⟩ = some (.int .i64 0) := (blk_cell BK480.out 1).trans rfl; have hcz20_2 : w19.cell? ⟨gb480, 2, none⟩ = some (.int .i64 0) := (blk_cell BK480.out 2).trans rfl; have hcz20_3 : w19.cell? ⟨gb480, 3, none⟩ = some (.int .i64 0) := (blk_cell BK480.out 3).trans rfl; have hfz20_0 := blk_frozen BK480.out 0; have hfz20_1 := blk_frozen BK480.out 1; have hfz20_2 := blk_frozen BK480.out 2; have hfz20_3 := blk_frozen BK480.out 3; have p481 : 0 ≤ (((rd_T32 l1 x21_2).f1) : Int) := of_decide_eq_true qq3; have q481 : ((rd_T32 l1 x21_2).f1) < (l2.length : Int) := of_decide_eq_true qq3; obtain ⟨ad481, e481, hx481_0⟩ := Kd.at_int HR2.out ((rd_T32 l1 x21_2).f1) p481 q481; cases e481; have hn481_0 : ad481.block ≠ gb480 := Nat.ne_of_lt (Nat.lt_of_lt_of_le qq18 GW480.out); have hn481_1 : ad481.block ≠ gb480 := Nat.ne_of_lt (Nat.lt_of_lt_of_le qq18 GW480.out); have hn481_2 : ad481.block ≠ gb480 := Nat.ne_of_lt (Nat.lt_of_lt_of_le qq18 GW480.out); have hn481_3 : ad481.block ≠ gb480 := Nat.ne_of_lt (Nat.lt_of_lt_of_le qq18 GW480.out); replace hx481_0 := (HB.out.cell (World.block_lt_of_cell? w _ hx481_0)).trans hx481_0; replace hx481_0 := (cell_far (p := ⟨gb480, 0, none⟩) qq38 (.int .i64 ((rd_T32 l1 x21_2).f0))).trans hx481_0; replace hx481_0 := (cell_far (p := ⟨gb480, 1, none⟩) qq39 (.int .i64 ((rd_T32 l1 x21_2).f1))).trans hx481_0; replace hx481_0 := (cell_far (p := ⟨gb480, 2, none⟩) qq40 (.int .i64 ((rd_T32 l1 x21_2).f2))).trans hx481_0; replace hx481_0 := (cell_far (p := ⟨gb480, 3, none⟩) qq41 (.int .i64 ((rd_T32 l1 x21_2).f3))).trans hx481_0; (try have hy481_0 := fun (n_ : Nat) => (show ((((((w19.drewN n_).setCell ⟨gb480, 0, none⟩ (.int .i64 ((rd_T32 l1 x21_2).f0))).setCell ⟨gb480, 1, none⟩ (.int .i64 ((rd_T32 l1 x21_2).f1))).setCell ⟨gb480, 2, none⟩ (.int .i64 ((rd_T32 l1 x21_2).f2))).setCell ⟨gb480, 3, none⟩ (.int .i64 ((rd_T32 l1 x21_2).f3)))).cell? _ = some _ from hx481_0)); clear hn481_0; clear hn481_1; clear hn481_2; clear hn481_3; replace p481 := eq_true p481; replace q481 := eq_true q481; have p482 : 0 ≤ (((rd_T32 l1 x21_2).f0) : Int) := of_decide_eq_true qq3; have q482 : ((rd_T32 l1 x21_2).f0) < (l2.length : Int) := of_decide_eq_true qq3; obtain ⟨ad482, e482, hx482_0⟩ := Kd.at_int HR2.out ((rd_T32 l1 x21_2).f0) p482 q482; obtain rfl : ad481 = ad482 := (by injection e482); have hn482_0 : ad481.block ≠ gb480 := Nat.ne_of_lt (Nat.lt_of_lt_of_le qq19 GW480.out); have hn482_1 : ad481.block ≠ gb480 := Nat.ne_of_lt (Nat.lt_of_lt_of_le qq19 GW480.out); have hn482_2 : ad481.block ≠ gb480 := Nat.ne_of_lt (Nat.lt_of_lt_of_le qq19 GW480.out); have hn482_3 : ad481.block ≠ gb480 := Nat.ne_of_lt (Nat.lt_of_lt_of_le qq19 GW480.out); replace hx482_0 := (HB.out.cell (World.block_lt_of_cell? w _ hx482_0)).trans hx482_0; replace hx482_0 := (cell_far (p := ⟨gb480, 0, none⟩) qq42 (.int .i64 ((rd_T32 l1 x21_2).f0))).trans hx482_0; replace hx482_0 := (cell_far (p := ⟨gb480, 1, none⟩) qq43 (.int .i64 ((rd_T32 l1 x21_2).f1))).trans hx482_0; replace hx482_0 := (cell_far (p := ⟨gb480, 2, none⟩) qq44 (.int .i64 ((rd_T32 l1 x21_2).f2))).trans hx482_0; replace hx482_0 := (cell_far (p := ⟨gb480, 3, none⟩) qq45 (.int .i64 ((rd_T32 l1 x21_2).f3))).trans hx482_0; (try have hy482_0 := fun (n_ : Nat) => (show ((((((w19.drewN n_).setCell ⟨gb480, 0, none⟩ (.int .i64 ((rd_T32 l1 x21_2).f0))).setCell ⟨gb480, 1, none⟩ (.int .i64 ((rd_T32 l1 x21_2).f1))).setCell ⟨gb480, 2, none⟩ (.int .i64 ((rd_T32 l1 x21_2).f2))).setCell ⟨gb480, 3, none⟩ (.int .i64 ((rd_T32 l1 x21_2).f3)))).cell? _ = some _ from hx482_0)); clear hn482_0; clear hn482_1; clear hn482_2; clear hn482_3; replace p482 := eq_true p482; replace q482 := eq_true q482)))
                            go_roundg k2
                            case measure => have := HJ3.out; have := HK2.out; omega
                            case rel => exact ⟨(wrap64 (x21_2 + 1)), qq13, H', ⟨qq76 HJ3.out HK2.out⟩, ⟨qq4 HB.out GE480.out⟩⟩
                          · rw [if_neg c18] at H
                            have c18b0 : ((wrap64 ((rd l2 ((rd_T32 l1 x21_2).f1)) - (rd l2 ((rd_T32 l1 x21_2).f0)))) == ((rd_T32 l1 x21_2).f2)) = false := beq_eq_false_iff_ne.mpr c18
                            have c18b1 : ((wrap64 ((rd l2 ((rd_T32 l1 x21_2).f1)) - (rd l2 ((rd_T32 l1 x21_2).f0)))) != ((rd_T32 l1 x21_2).f2)) = true := bne_iff_ne.mpr c18
                            obtain rfl := Option.some.inj H
                            have p479 : 0 ≤ (x21_2 : Int) := of_decide_eq_true qq3
                            have q479 : x21_2 < (l1.length : Int) := of_decide_eq_true qq3
                            obtain ⟨ad479, e479, hx479_0, hx479_1, hx479_2, hx479_3⟩ := at_T32 HR1.out x21_2 p479 q479
                            cases e479
                            replace hx479_0 := (HB.out.cell (World.block_lt_of_cell? w _ hx479_0)).trans hx479_0
                            replace hx479_1 := (HB.out.cell (World.block_lt_of_cell? w _ hx479_1)).trans hx479_1
                            replace hx479_2 := (HB.out.cell (World.block_lt_of_cell? w _ hx479_2)).trans hx479_2
                            replace hx479_3 := (HB.out.cell (World.block_lt_of_cell? w _ hx479_3)).trans hx479_3
                            replace p479 := eq_true p479
                            replace q479 := eq_true q479
                            go_wp2_with (first | ((with_reducible refine gate_dst (N := 8) rfl ?_); refine box_event ?hg (N := 8) ?hd (cs := #[.int .i64 0, .int .i64 0, .int .i64 0, .int .i64 0]) (t := 32) ?hr ?_; (case hd => rfl); (case hg => rfl); (case hr => exact qq16); intro gb480 hg w21 hbox hb; have n0_ := Aside0.mk (below_step qq1 hb); have n1_ := Aside0.mk (hbox); have n2_ := Aside0.mk ((qq33 : w.heap.size ≤ gb480)); have n3_ := Aside0.mk ((qq33 : w.heap.size ≤ gb480)); clear HB; have HB := n0_; have BK480 := n1_; have GW480 := n2_; have GE480 := n3_; clear n0_ n1_ n2_ n3_; clear hb hbox hg; have hcz22_0 : w21.cell? ⟨gb480, 0, none⟩ = some (.int .i64 0) := (blk_cell BK480.out 0).trans rfl; have hcz22_1 : w21.cell? ⟨gb480, 1, none⟩ = some (.int .i64 0) := (blk_cell BK480.out 1).trans rfl; have hcz22_2 : w21.cell? ⟨gb480, 2, none⟩ = some (.int .i64 0) := (blk_cell BK480.out 2).trans rfl; have hcz22_3 : w21.cell? ⟨gb480, 3, none⟩ = some (.int .i64 0) := (blk_cell BK480.out 3).trans rfl; have hfz22_0 := blk_frozen BK480.out 0; have hfz22_1 := blk_frozen BK480.out 1; have hfz22_2 := blk_frozen BK480.out 2; have hfz22_3 := blk_frozen BK480.out 3; have p481 : 0 ≤ (((rd_T32 l1 x21_2).f1) : Int) := of_decide_eq_true qq3; have q481 : ((rd_T32 l1 x21_2).f1) < (l2.length : Int) := of_decide_eq_true qq3; obtain ⟨ad481, e481, hx481_0⟩ := Kd.at_int HR2.out ((rd_T32 l1 x21_2).f1) p481 q481; cases e481; have hn481_0 : ad481.block ≠ gb480 := Nat.ne_of_lt (Nat.lt_of_lt_of_le qq18 GW480.out); have hn481_1 : ad481.block ≠ gb480 := Nat.ne_of_lt (Nat.lt_of_lt_of_le qq18 GW480.out); have hn481_2 : ad481.block ≠ gb480 := Nat.ne_of_lt (Nat.lt_of_lt_of_le qq18 GW480.out); have hn481_3 : ad481.block ≠ gb480 := Nat.ne_of_lt (Nat.lt_of_lt_of_le qq18 GW480.out); replace hx481_0 := (HB.out.cell (World.block_lt_of_cell? w _ hx481_0)).trans hx481_0; replace hx481_0 := (cell_far (p := ⟨gb480, 0, none⟩) qq38 (.int .i64 ((rd_T32 l1 x21_2).f0))).trans hx481_0; replace hx481_0 := (cell_far (p := ⟨gb480, 1, none⟩) qq39 (.int .i64 ((rd_T32 l1 x21_2).f1))).trans hx481_0; replace hx481_0 := (cell_far (p := ⟨gb480, 2, none⟩) qq40 (.int .i64 ((rd_T32 l1 x21_2).f2))).trans hx481_0; replace hx481_0 := (cell_far (p := ⟨gb480, 3, none⟩) qq41 (.int .i64 ((rd_T32 l1 x21_2).f3))).trans hx481_0; (try have hy481_0 := fun (n_ : Nat) => (show ((((((w21.drewN n_).setCell ⟨gb480, 0, none⟩ (.int .i64 ((rd_T32 l1 x21_2).f0))).setCell ⟨gb480, 1, none⟩ (.int .i64 ((rd_T32 l1 x21_2).f1))).setCell ⟨gb480, 2, none⟩ (.int .i64 ((rd_T32 l1 x21_2).f2))).setCell ⟨gb480, 3, none⟩ (.int .i64 ((rd_T32 l1 x21_2).f3)))).cell? _ = some _ from hx481_0)); clear hn481_0; clear hn481_1; clear hn481_2; clear hn481_3; replace p481 := eq_true p481; replace q481 := eq_true q481; have p482 : 0 ≤ (((rd_T32 l1 x21_2).f0) : Int) := of_decide_eq_true qq3; have q482 : ((rd_T32 l1 x21_2).f0) < (l2.length : Int) := of_decide_eq_true qq3; obtain ⟨ad482, e482, hx482_0⟩ := Kd.at_int HR2.out ((rd_T32 l1 x21_2).f0) p482 q482; obtain rfl : ad481 = ad482 := (by injection e482); have hn482_0 : ad481.block ≠ gb480 := Nat.ne_of_lt (Nat.lt_of_lt_of_le qq19 GW480.out); have hn482_1 : ad481.block ≠ gb480 := Nat.ne_of_lt (Nat.lt_of_lt_of_le qq19 GW480.out); have hn482_2 : ad481.block ≠ gb480 := Nat.ne_of_lt (Nat.lt_of_lt_of_le qq19 GW480.out); have hn482_3 : ad481.block ≠ gb480 := Nat.ne_of_lt (Nat.lt_of_lt_of_le qq19 GW480.out); replace hx482_0 := (HB.out.cell (World.block_lt_of_cell? w _ hx482_0)).trans hx482_0; replace hx482_0 := (cell_far (p := ⟨gb480, 0, none⟩) qq42 (.int .i64 ((rd_T32 l1 x21_2).f0))).trans hx482_0; replace hx482_0 := (cell_far (p := ⟨gb480, 1, none⟩) qq43 (.int .i64 ((rd_T32 l1 x21_2).f1))).trans hx482_0; replace hx482_0 := (cell_far (p := ⟨gb480, 2, none⟩) qq44 (.int .i64 ((rd_T32 l1 x21_2).f2))).trans hx482_0; replace hx482_0 := (cell_far (p := ⟨gb480, 3, none⟩) qq45 (.int .i64 ((rd_T32 l1 x21_2).f3))).trans hx482_0; (try have hy482_0 := fun (n_ : Nat) => (show ((((((w21.drewN n_).setCell ⟨gb480, 0, none⟩ (.int .i64 ((rd_T32 l1 x21_2).f0))).setCell ⟨gb480, 1, none⟩ (.int .i64 ((rd_T32 l1 x21_2).f1))).setCell ⟨gb480, 2, none⟩ (.int .i64 ((rd_T32 l1 x21_2).f2))).setCell ⟨gb480, 3, none⟩ (.int .i64 ((rd_T32 l1 x21_2).f3)))).cell? _ = some _ from hx482_0)); clear hn482_0; clear hn482_1; clear hn482_2; clear hn482_3; replace p482 := eq_true p482; replace q482 := eq_true q482))
                            repeat (go_quiet (first | ((with_reducible refine gate_dst (N := 8) rfl ?_); refine box_event ?hg (N := 8) ?hd (cs := #[.int .i64 0, .int .i64 0, .int .i64 0, .int .i64 0]) (t := 32) ?hr ?_; (case hd => rfl); (case hg => rfl); (case hr => exact qq16); intro gb480 hg w21 hbox hb; have n0_ := Aside0.mk (below_step qq1 hb); have n1_ := Aside0.mk (hbox); have n2_ := Aside0.mk ((qq33 : w.heap.size ≤ gb480)); have n3_ := Aside0.mk ((qq33 : w.heap.size ≤ gb480)); clear HB; have HB := n0_; have BK480 := n1_; have GW480 := n2_; have GE480 := n3_; clear n0_ n1_ n2_ n3_; clear hb hbox hg; have hcz22_0 : w21.cell? ⟨gb480, 0, none⟩ = some (.int .i64 0) := (blk_cell BK480.out 0).trans rfl; have hcz22_1 : w21.cell? ⟨gb480, 1, none⟩ = some (.int .i64 0) := (blk_cell BK480.out 1).trans rfl; have hcz22_2 : w21.cell? ⟨gb480, 2, none⟩ = some (.int .i64 0) := (blk_cell BK480.out 2).trans rfl; have hcz22_3 : w21.cell? ⟨gb480, 3, none⟩ = some (.int .i64 0) := (blk_cell BK480.out 3).trans rfl; have hfz22_0 := blk_frozen BK480.out 0; have hfz22_1 := blk_frozen BK480.out 1; have hfz22_2 := blk_frozen BK480.out 2; have hfz22_3 := blk_frozen BK480.out 3; have p481 : 0 ≤ (((rd_T32 l1 x21_2).f1) : Int) := of_decide_eq_true qq3; have q481 : ((rd_T32 l1 x21_2).f1) < (l2.length : Int) := of_decide_eq_true qq3; obtain ⟨ad481, e481, hx481_0⟩ := Kd.at_int HR2.out ((rd_T32 l1 x21_2).f1) p481 q481; cases e481; have hn481_0 : ad481.block ≠ gb480 := Nat.ne_of_lt (Nat.lt_of_lt_of_le qq18 GW480.out); have hn481_1 : ad481.block ≠ gb480 := Nat.ne_of_lt (Nat.lt_of_lt_of_le qq18 GW480.out); have hn481_2 : ad481.block ≠ gb480 := Nat.ne_of_lt (Nat.lt_of_lt_of_le qq18 GW480.out); have hn481_3 : ad481.block ≠ gb480 := Nat.ne_of_lt (Nat.lt_of_lt_of_le qq18 GW480.out); replace hx481_0 := (HB.out.cell (World.block_lt_of_cell? w _ hx481_0)).trans hx481_0; replace hx481_0 := (cell_far (p := ⟨gb480, 0, none⟩) qq38 (.int .i64 ((rd_T32 l1 x21_2).f0))).trans hx481_0; replace hx481_0 := (cell_far (p := ⟨gb480, 1, none⟩) qq39 (.int .i64 ((rd_T32 l1 x21_2).f1))).trans hx481_0; replace hx481_0 := (cell_far (p := ⟨gb480, 2, none⟩) qq40 (.int .i64 ((rd_T32 l1 x21_2).f2))).trans hx481_0; replace hx481_0 := (cell_far (p := ⟨gb480, 3, none⟩) qq41 (.int .i64 ((rd_T32 l1 x21_2).f3))).trans hx481_0; (try have hy481_0 := fun (n_ : Nat) => (show ((((((w21.drewN n_).setCell ⟨gb480, 0, none⟩ (.int .i64 ((rd_T32 l1 x21_2).f0))).setCell ⟨gb480, 1, none⟩ (.int .i64 ((rd_T32 l1 x21_2).f1))).setCell ⟨gb480, 2, none⟩ (.int .i64 ((rd_T32 l1 x21_2).f2))).setCell ⟨gb480, 3, none⟩ (.int .i64 ((rd_T32 l1 x21_2).f3)))).cell? _ = some _ from hx481_0)); clear hn481_0; clear hn481_1; clear hn481_2; clear hn481_3; replace p481 := eq_true p481; replace q481 := eq_true q481; have p482 : 0 ≤ (((rd_T32 l1 x21_2).f0) : Int) := of_decide_eq_true qq3; have q482 : ((rd_T32 l1 x21_2).f0) < (l2.length : Int) := of_decide_eq_true qq3; obtain ⟨ad482, e482, hx482_0⟩ := Kd.at_int HR2.out ((rd_T32 l1 x21_2).f0) p482 q482; obtain rfl : ad481 = ad482 := (by injection e482); have hn482_0 : ad481.block ≠ gb480 := Nat.ne_of_lt (Nat.lt_of_lt_of_le qq19 GW480.out); have hn482_1 : ad481.block ≠ gb480 := Nat.ne_of_lt (Nat.lt_of_lt_of_le qq19 GW480.out); have hn482_2 : ad481.block ≠ gb480 := Nat.ne_of_lt (Nat.lt_of_lt_of_le qq19 GW480.out); have hn482_3 : ad481.block ≠ gb480 := Nat.ne_of_lt (Nat.lt_of_lt_of_le qq19 GW480.out); replace hx482_0 := (HB.out.cell (World.block_lt_of_cell? w _ hx482_0)).trans hx482_0; replace hx482_0 := (cell_far (p := ⟨gb480, 0, none⟩) qq42 (.int .i64 ((rd_T32 l1 x21_2).f0))).trans hx482_0; replace hx482_0 := (cell_far (p := ⟨gb480, 1, none⟩) qq43 (.int .i64 ((rd_T32 l1 x21_2).f1))).trans hx482_0; replace hx482_0 := (cell_far (p := ⟨gb480, 2, none⟩) qq44 (.int .i64 ((rd_T32 l1 x21_2).f2))).trans hx482_0; replace hx482_0 := (cell_far (p := ⟨gb480, 3, none⟩) qq45 (.int .i64 ((rd_T32 l1 x21_2).f3))).trans hx482_0; (try have hy482_0 := fun (n_ : Nat) => (show ((((((w21.drewN n_).setCell ⟨gb480, 0, none⟩ (.int .i64 ((rd_T32 l1 x21_2).f0))).setCell ⟨gb480, 1, none⟩ (.int .i64 ((rd_T32 l1 x21_2).f1))).setCell ⟨gb480, 2, none⟩ (.int .i64 ((rd_T32 l1 x21_2).f2))).setCell ⟨gb480, 3, none⟩ (.int .i64 ((rd_T32 l1 x21_2).f3)))).cell? _ = some _ from hx482_0)); clear hn482_0; clear hn482_1; clear hn482_2; clear hn482_3; replace p482 := eq_true p482; replace q482 := eq_true q482)); try go_wp2_with (first | ((with_reducible refine gate_dst (N := 8) rfl ?_); refine box_event ?hg (N := 8) ?hd (cs := #[.int .i64 0, .int .i64 0, .int .i64 0, .int .i64 0]) (t := 32) ?hr ?_; (case hd => rfl); (case hg => rfl); (case hr => exact qq16); intro gb480 hg w21 hbox hb; have n0_ := Aside0.mk (below_step qq1 hb); have n1_ := Aside0.mk (hbox); have n2_ := Aside0.mk ((qq33 : w.heap.size ≤ gb480)); have n3_ := Aside0.mk ((qq33 : w.heap.size ≤ gb480)); clear HB; have HB := n0_; have BK480 := n1_; have GW480 := n2_; have GE480 := n3_; clear n0_ n1_ n2_ n3_; clear hb hbox hg; have hcz22_0 : w21.cell? ⟨gb480, 0, none⟩ = some (.int .i64 0) := (blk_cell BK480.out 0).trans rfl; have hcz22_1 : w21.cell? ⟨gb480, 1, none⟩ = some (.int .i64 0) := (blk_cell BK480.out 1).trans rfl; have hcz22_2 : w21.cell? ⟨gb480, 2, none⟩ = some (.int .i64 0) := (blk_cell BK480.out 2).trans rfl; have hcz22_3 : w21.cell? ⟨gb480, 3, none⟩ = some (.int .i64 0) := (blk_cell BK480.out 3).trans rfl; have hfz22_0 := blk_frozen BK480.out 0; have hfz22_1 := blk_frozen BK480.out 1; have hfz22_2 := blk_frozen BK480.out 2; have hfz22_3 := blk_frozen BK480.out 3; have p481 : 0 ≤ (((rd_T32 l1 x21_2).f1) : Int) := of_decide_eq_true qq3; have q481 : ((rd_T32 l1 x21_2).f1) < (l2.length : Int) := of_decide_eq_true qq3; obtain ⟨ad481, e481, hx481_0⟩ := Kd.at_int HR2.out ((rd_T32 l1 x21_2).f1) p481 q481; cases e481; have hn481_0 : ad481.block ≠ gb480 := Nat.ne_of_lt (Nat.lt_of_lt_of_le qq18 GW480.out); have hn481_1 : ad481.block ≠ gb480 := Nat.ne_of_lt (Nat.lt_of_lt_of_le qq18 GW480.out); have hn481_2 : ad481.block ≠ gb480 := Nat.ne_of_lt (Nat.lt_of_lt_of_le qq18 GW480.out); have hn481_3 : ad481.block ≠ gb480 := Nat.ne_of_lt (Nat.lt_of_lt_of_le qq18 GW480.out); replace hx481_0 := (HB.out.cell (World.block_lt_of_cell? w _ hx481_0)).trans hx481_0; replace hx481_0 := (cell_far (p := ⟨gb480, 0, none⟩) qq38 (.int .i64 ((rd_T32 l1 x21_2).f0))).trans hx481_0; replace hx481_0 := (cell_far (p := ⟨gb480, 1, none⟩) qq39 (.int .i64 ((rd_T32 l1 x21_2).f1))).trans hx481_0; replace hx481_0 := (cell_far (p := ⟨gb480, 2, none⟩) qq40 (.int .i64 ((rd_T32 l1 x21_2).f2))).trans hx481_0; replace hx481_0 := (cell_far (p := ⟨gb480, 3, none⟩) qq41 (.int .i64 ((rd_T32 l1 x21_2).f3))).trans hx481_0; (try have hy481_0 := fun (n_ : Nat) => (show ((((((w21.drewN n_).setCell ⟨gb480, 0, none⟩ (.int .i64 ((rd_T32 l1 x21_2).f0))).setCell ⟨gb480, 1, none⟩ (.int .i64 ((rd_T32 l1 x21_2).f1))).setCell ⟨gb480, 2, none⟩ (.int .i64 ((rd_T32 l1 x21_2).f2))).setCell ⟨gb480, 3, none⟩ (.int .i64 ((rd_T32 l1 x21_2).f3)))).cell? _ = some _ from hx481_0)); clear hn481_0; clear hn481_1; clear hn481_2; clear hn481_3; replace p481 := eq_true p481; replace q481 := eq_true q481; have p482 : 0 ≤ (((rd_T32 l1 x21_2).f0) : Int) := of_decide_eq_true qq3; have q482 : ((rd_T32 l1 x21_2).f0) < (l2.length : Int) := of_decide_eq_true qq3; obtain ⟨ad482, e482, hx482_0⟩ := Kd.at_int HR2.out ((rd_T32 l1 x21_2).f0) p482 q482; obtain rfl : ad481 = ad482 := (by injection e482); have hn482_0 : ad481.block ≠ gb480 := Nat.ne_of_lt (Nat.lt_of_lt_of_le qq19 GW480.out); have hn482_1 : ad481.block ≠ gb480 := Nat.ne_of_lt (Nat.lt_of_lt_of_le qq19 GW480.out); have hn482_2 : ad481.block ≠ gb480 := Nat.ne_of_lt (Nat.lt_of_lt_of_le qq19 GW480.out); have hn482_3 : ad481.block ≠ gb480 := Nat.ne_of_lt (Nat.lt_of_lt_of_le qq19 GW480.out); replace hx482_0 := (HB.out.cell (World.block_lt_of_cell? w _ hx482_0)).trans hx482_0; replace hx482_0 := (cell_far (p := ⟨gb480, 0, none⟩) qq42 (.int .i64 ((rd_T32 l1 x21_2).f0))).trans hx482_0; replace hx482_0 := (cell_far (p := ⟨gb480, 1, none⟩) qq43 (.int .i64 ((rd_T32 l1 x21_2).f1))).trans hx482_0; replace hx482_0 := (cell_far (p := ⟨gb480, 2, none⟩) qq44 (.int .i64 ((rd_T32 l1 x21_2).f2))).trans hx482_0; replace hx482_0 := (cell_far (p := ⟨gb480, 3, none⟩) qq45 (.int .i64 ((rd_T32 l1 x21_2).f3))).trans hx482_0; (try have hy482_0 := fun (n_ : Nat) => (show ((((((w21.drewN n_).setCell ⟨gb480, 0, none⟩ (.int .i64 ((rd_T32 l1 x21_2).f0))).setCell ⟨gb480, 1, none⟩ (.int .i64 ((rd_T32 l1 x21_2).f1))).setCell ⟨gb480, 2, none⟩ (.int .i64 ((rd_T32 l1 x21_2).f2))).setCell ⟨gb480, 3, none⟩ (.int .i64 ((rd_T32 l1 x21_2).f3)))).cell? _ = some _ from hx482_0)); clear hn482_0; clear hn482_1; clear hn482_2; clear hn482_3; replace p482 := eq_true p482; replace q482 := eq_true q482)))
                            go_ret
                            exact ⟨qq11, qq4 HB.out GE480.out⟩
                        · rw [if_neg c17] at H
                          exact absurd H (by simp)
                      · rw [if_neg c16] at H
                        exact absurd H (by simp)
                    · rw [if_neg c15] at H
                      exact absurd H (by simp)
                  · rw [if_neg c14] at H
                    exact absurd H (by simp)
                · rw [if_neg c13] at H
                  exact absurd H (by simp)
              · rw [if_neg c12] at H
                exact absurd H (by simp)
            · rw [if_neg c11] at H
              have c11b0 : decide (x21_2 < (l1.length : Int)) = false := decide_eq_false c11
              clear c11
              obtain rfl := Option.some.inj H
              go_wp2
              repeat (go_quiet (fail); try go_wp2)
              go_ret
              exact ⟨qq11, qq1⟩

end Go.Proofs.Ytmcfhmflncghiaa.Q
namespace Go.Proofs.Ytmcfhmflncghiaa.Q
open Go.RowKit Go.Proofs.YtmcfhmflncghiaaW.PrintWords Go.Proofs.YtmcfhmflncghiaaW.PrintLast Go.Proofs.YtmcfhmflncghiaaW.PrintMore
attribute [local go_sem] max2_int min2_int max_two min_two max_three min_three max_four min_four
set_option linter.unusedVariables false
set_option linter.unusedSimpArgs false

/-- A state of type 61 at block g of W; what its slices lead to came in by w0. -/
def IsS61 (w0 W : World) (g : Nat) (f0 : List Int) (f1 : Int) : Prop := ∃ A0 c0, W.heap[g]? = some (.cells #[.slice A0 f0.length c0, .int .i64 f1] 61 (0, 0)) ∧ w0.heap.size ≤ g ∧ Kd.C (Kd.int .u8) w0 A0 f0.length f0
theorem IsS61.grown {w0 W : World} {g : Nat} {f0 : List Int} {f1 : Int} {W1 : World} {row : Option Nat} (h : IsS61 w0 W g f0 f1) (hw : W.grownBy W1 row) (hne : some g ≠ row) : IsS61 w0 W1 g f0 f1 := by
  obtain ⟨A0, c0, hb, hg, hr0⟩ := h
  exact ⟨A0, c0, blk_grown hb hw hne, hg, hr0⟩
theorem IsS61.below {w0 W : World} {g : Nat} {f0 : List Int} {f1 : Int} {W1 : World} (h : IsS61 w0 W g f0 f1) (hw : Below W.heap.size W W1) : IsS61 w0 W1 g f0 f1 := h.grown (grown_of_below hw none) (by simp)
theorem IsS61.alloc {w0 W : World} {g : Nat} {f0 : List Int} {f1 : Int} (h : IsS61 w0 W g f0 f1) (o : Obj) : IsS61 w0 (W.alloc o) g f0 f1 := h.below (below_alloc (Below.refl _ _) o)
theorem IsS61.drewN {w0 W : World} {g : Nat} {f0 : List Int} {f1 : Int} (h : IsS61 w0 W g f0 f1) (m : Nat) : IsS61 w0 (W.drewN m) g f0 f1 := h
theorem IsS61.drew {w0 W : World} {g : Nat} {f0 : List Int} {f1 : Int} (h : IsS61 w0 W g f0 f1) : IsS61 w0 W.drew g f0 f1 := h
theorem IsS61.apart {w0 W : World} {g : Nat} {f0 : List Int} {f1 : Int} {α : Type} {d : Kd α} {e : Nat} {base : Nat} {ok : Nat → Prop} {v : Value} {xs : List α} (h : IsS61 w0 W g f0 f1) (ho : d.R e W base ok v xs) (ht : ∀ q, q ∈ e :: d.E → q ≠ 61) : d.R e W base (fun k => ok k ∧ k ≠ g) v xs := by
  obtain ⟨A0, c0, hb, hg, hr0⟩ := h
  exact Kd.R_types ho hb ht
theorem IsS61.own_ne {w0 W : World} {g : Nat} {f0 : List Int} {f1 : Int} {α : Type} {d : Kd α} {e : Nat} {base : Nat} {ok : Nat → Prop} {v : Value} {xs : List α} (h : IsS61 w0 W g f0 f1) (ho : d.R e W base ok v xs) (ht : e ≠ 61) : some g ≠ v.ownBlock := by
  obtain ⟨A0, c0, hb, hg, hr0⟩ := h
  exact Kd.R_ne ho hb ht
theorem IsS61.lt {w0 W : World} {g : Nat} {f0 : List Int} {f1 : Int} (h : IsS61 w0 W g f0 f1) : g < W.heap.size := by
  obtain ⟨A0, c0, hb, hg, hr0⟩ := h
  exact blk_lt hb
theorem IsS61.ge {w0 W : World} {g : Nat} {f0 : List Int} {f1 : Int} (h : IsS61 w0 W g f0 f1) : w0.heap.size ≤ g := by
  obtain ⟨A0, c0, hb, hg, hr0⟩ := h
  exact hg
theorem IsS61.far {w0 W : World} {g : Nat} {f0 : List Int} {f1 : Int} {p : Addr} (h : IsS61 w0 W g f0 f1) (hne : g ≠ p.block) (u : Value) : IsS61 w0 (W.setCell p u) g f0 f1 := by
  obtain ⟨A0, c0, hb, hg, hr0⟩ := h
  exact ⟨A0, c0, blk_far hb hne u, hg, hr0⟩
theorem cellS61_0 {W : World} {g : Nat} {A0 : Option Addr} {c0 : Nat} {f0 : List Int} {f1 : Int} (h : W.heap[g]? = some (.cells #[.slice A0 f0.length c0, .int .i64 f1] 61 (0, 0))) : W.cell? ⟨g, 0, none⟩ = some (.slice A0 f0.length c0) := (blk_cell h 0).trans rfl
theorem cellS61_1 {W : World} {g : Nat} {A0 : Option Addr} {c0 : Nat} {f0 : List Int} {f1 : Int} (h : W.heap[g]? = some (.cells #[.slice A0 f0.length c0, .int .i64 f1] 61 (0, 0))) : W.cell? ⟨g, 1, none⟩ = some (.int .i64 f1) := (blk_cell h 1).trans rfl
theorem IsS61.set_1 {w0 W : World} {g : Nat} {f0 : List Int} {f1 : Int} (h : IsS61 w0 W g f0 f1) (x : Int) : IsS61 w0 (W.setCell ⟨g, 1, none⟩ (.int .i64 x)) g f0 x := by
  obtain ⟨A0, c0, hb, hg, hr0⟩ := h
  exact ⟨A0, c0, by simpa using blk_set hb 1 (.int .i64 x), hg, hr0⟩
/-! ### spec_l6Rd_pick: function 36 -/
def spec_l6Rd_pick.j0 : Nat → Int → Bool → List Int → Int → Option (Int × Int)
  | 0, _, _, _, _ => none
  | k + 1, x1, x24, x1000, x1001 => if x24 = true then (some (0, x1001)) else (if (wrap64 (x1001 - 1)) < (x1000.length : Int) then (if 0 ≤ (wrap64 (x1001 - 1)) then (if x1 = 0 then (none) else (some (Int.tmod (wrap64 (rd x1000 (wrap64 (x1001 - 1)))) x1, x1001))) else (none)) else (if (x1000.length : Int) = 0 then (none) else (if 0 ≤ (Int.tmod (wrap64 (x1001 - 1)) (x1000.length : Int)) then (if (Int.tmod (wrap64 (x1001 - 1)) (x1000.length : Int)) < (x1000.length : Int) then (if 0 ≤ (Int.tmod (wrap64 ((wrap64 ((wrap64 (x1001 - 1)) * 7)) + 3)) (x1000.length : Int)) then (if (Int.tmod (wrap64 ((wrap64 ((wrap64 (x1001 - 1)) * 7)) + 3)) (x1000.length : Int)) < (x1000.length : Int) then (if x1 = 0 then (none) else (some (Int.tmod (Go.bits .xor .i64 (wrap64 ((wrap64 ((wrap64 ((wrap64 ((wrap64 (rd x1000 (Int.tmod (wrap64 (x1001 - 1)) (x1000.length : Int)))) * 131)) + (wrap64 ((wrap64 (rd x1000 (Int.tmod (wrap64 ((wrap64 ((wrap64 (x1001 - 1)) * 7)) + 3)) (x1000.length : Int)))) * 1117)))) + (wrap64 ((wrap64 (x1001 - 1)) * 29)))) + (wrap64 ((wrap64 (Int.tdiv (wrap64 (x1001 - 1)) (x1000.length : Int))) * 53)))) (wrap64 (Int.tdiv (wrap64 ((wrap64 ((wrap64 ((wrap64 ((wrap64 (rd x1000 (Int.tmod (wrap64 (x1001 - 1)) (x1000.length : Int)))) * 131)) + (wrap64 ((wrap64 (rd x1000 (Int.tmod (wrap64 ((wrap64 ((wrap64 (x1001 - 1)) * 7)) + 3)) (x1000.length : Int)))) * 1117)))) + (wrap64 ((wrap64 (x1001 - 1)) * 29)))) + (wrap64 ((wrap64 (Int.tdiv (wrap64 (x1001 - 1)) (x1000.length : Int))) * 53)))) 64))) x1, x1001))) else (none)) else (none)) else (none)) else (none))))
def spec_l6Rd_pick.f (k : Nat) (s0_0 : List Int) (s0_1 : Int) (a1 : Int) : Option (Int × Int) := if a1 < 1 then (spec_l6Rd_pick.j0 k a1 true s0_0 (wrap64 (s0_1 + 1))) else (spec_l6Rd_pick.j0 k a1 ((s0_0.length : Int) == 0) s0_0 (wrap64 (s0_1 + 1)))
set_option maxHeartbeats 8000000 in
set_option maxRecDepth 100000 in
theorem spec_l6Rd_pick.calls (k : Nat) (g : Nat) (s0_0 : List Int) (s0_1 : Int) (a1 : Int) (r1 : Int) (r2 : Int) (w0 w : World) (hI : IsS61 w0 w g s0_0 s0_1) (hB : Below w0.heap.size w0 w) (h : spec_l6Rd_pick.f k s0_0 s0_1 a1 = some (r1, r2)) :
    Calls Try.prog 36 #[.pointer (some ⟨g, 0, none⟩), .int .i64 a1] w fun e w' => e = .returned (.int .i64 r1) ∧ IsS61 w0 w' g s0_0 r2 ∧ Below w0.heap.size w0 w' ∧ KeepBut w w' g none := by
  have HI0 := Aside0.mk hI
  have HK := Aside0.mk (KeepBut.refl w g none)
  have HL := Aside0.mk hB.size
  clear hI
  have HW0 := Aside0.mk hB.size
  have HB := Aside0.mk hB
  clear hB
  have H : (if a1 < 1 then (spec_l6Rd_pick.j0 k a1 true s0_0 (wrap64 (s0_1 + 1))) else (spec_l6Rd_pick.j0 k a1 ((s0_0.length : Int) == 0) s0_0 (wrap64 (s0_1 + 1)))) = some (r1, r2) := h
  clear h
  have HC3 := Aside0.mk H
  clear H
  obtain ⟨ASz4_0, cSz4_0, HGz4, hgz4, HSz4_0⟩ := HI0.out
  have hcz4_0 := cellS61_0 HGz4
  have hcz4_1 := cellS61_1 HGz4
  have hfz4_1 := blk_frozen HGz4 1
  clear HGz4 hgz4
  go_enter Try.func36, Try.ntmps36
  go_upto_region 2 with (fail)
  repeat (go_quiet (fail); go_upto_region 2 with (fail))
  go_cut [24] (fun v24 wc => ∃ (kq : Nat) (x24_2 : Bool), v24 = .bool x24_2 ∧ Aside0 (spec_l6Rd_pick.j0 kq a1 x24_2 s0_0 (wrap64 (s0_1 + 1)) = some (r1, r2)) ∧ Aside0 (kq ≤ k) ∧ Aside0 (IsS61 w0 wc g s0_0 (wrap64 (s0_1 + 1))) ∧ Aside0 (KeepBut w wc g none) ∧ Aside0 (Below w0.heap.size w0 wc))
  case first =>
    have H := HC3.out
    clear HC3
    by_cases c5 : a1 < 1
    · rw [if_pos c5] at H
      have c5b0 : decide (a1 < 1) = true := decide_eq_true c5
      clear c5
      (first | rw [c5b0] | (simp only [i64_w, i32_w]; rw [c5b0]) | skip)
      have H' := Aside0.mk H
      clear H
      go_wp2
      repeat (go_quiet (fail); try go_wp2)
      go_meet
      case rel => exact ⟨_, (true), qq13, H', ⟨qq37⟩, ⟨qq9⟩, ⟨qq6⟩, ⟨qq8⟩⟩
    · rw [if_neg c5] at H
      have c5b0 : decide (a1 < 1) = false := decide_eq_false c5
      clear c5
      (first | rw [c5b0] | (simp only [i64_w, i32_w]; rw [c5b0]) | skip)
      have H' := Aside0.mk H
      clear H
      obtain ⟨ASz6_0, cSz6_0, HGz6, hgz6, HSz6_0⟩ := HI0.out
      have hcz6_0 := cellS61_0 HGz6
      have hcz6_1 := cellS61_1 HGz6
      have hfz6_1 := blk_frozen HGz6 1
      clear HGz6 hgz6
      go_wp2
      repeat (go_quiet (fail); try go_wp2)
      go_meet
      case rel => exact ⟨_, (((s0_0.length : Int) == 0)), qq13, H', ⟨qq37⟩, ⟨qq9⟩, ⟨qq6⟩, ⟨qq8⟩⟩
  case rest =>
    clear HC3
    try clear p2
    try clear c3
    try clear c5
    try clear c5b0
    try clear p6
    try clear hcz4_0
    try clear hcz4_1
    try clear hcz6_0
    try clear hcz6_1
    try clear hfz4_1
    try clear hfz6_1
    obtain ⟨kq, x24_2, rfl, HA, HJ2, HI0, HK, HB⟩ := hcut
    cases kq with
    | zero => exact absurd HA.out (by simp [spec_l6Rd_pick.j0])
    | succ kj2 =>
      have H := HA.out
      clear HA
      simp only [spec_l6Rd_pick.j0] at H
      by_cases c7 : x24_2 = true
      · subst c7
        have H1 : (some (0, (wrap64 (s0_1 + 1)))) = some (r1, r2) := by rw [if_pos rfl] at H; exact H
        clear H
        have H := H1
        clear H1
        simp only [Option.some.injEq, Prod.mk.injEq] at H
        obtain ⟨rfl, rfl⟩ := H
        go_wp2
        repeat (go_quiet (fail); try go_wp2)
        go_ret
        exact ⟨qq11, qq9, qq8, qq6⟩
      · replace c7 := Bool.eq_false_iff.mpr c7
        subst c7
        have H1 : (if (wrap64 ((wrap64 (s0_1 + 1)) - 1)) < (s0_0.length : Int) then (if 0 ≤ (wrap64 ((wrap64 (s0_1 + 1)) - 1)) then (if a1 = 0 then (none) else (some (Int.tmod (wrap64 (rd s0_0 (wrap64 ((wrap64 (s0_1 + 1)) - 1)))) a1, (wrap64 (s0_1 + 1))))) else (none)) else (if (s0_0.length : Int) = 0 then (none) else (if 0 ≤ (Int.tmod (wrap64 ((wrap64 (s0_1 + 1)) - 1)) (s0_0.length : Int)) then (if (Int.tmod (wrap64 ((wrap64 (s0_1 + 1)) - 1)) (s0_0.length : Int)) < (s0_0.length : Int) then (if 0 ≤ (Int.tmod (wrap64 ((wrap64 ((wrap64 ((wrap64 (s0_1 + 1)) - 1)) * 7)) + 3)) (s0_0.length : Int)) then (if (Int.tmod (wrap64 ((wrap64 ((wrap64 ((wrap64 (s0_1 + 1)) - 1)) * 7)) + 3)) (s0_0.length : Int)) < (s0_0.length : Int) then (if a1 = 0 then (none) else (some (Int.tmod (Go.bits .xor .i64 (wrap64 ((wrap64 ((wrap64 ((wrap64 ((wrap64 (rd s0_0 (Int.tmod (wrap64 ((wrap64 (s0_1 + 1)) - 1)) (s0_0.length : Int)))) * 131)) + (wrap64 ((wrap64 (rd s0_0 (Int.tmod (wrap64 ((wrap64 ((wrap64 ((wrap64 (s0_1 + 1)) - 1)) * 7)) + 3)) (s0_0.length : Int)))) * 1117)))) + (wrap64 ((wrap64 ((wrap64 (s0_1 + 1)) - 1)) * 29)))) + (wrap64 ((wrap64 (Int.tdiv (wrap64 ((wrap64 (s0_1 + 1)) - 1)) (s0_0.length : Int))) * 53)))) (wrap64 (Int.tdiv (wrap64 ((wrap64 ((wrap64 ((wrap64 ((wrap64 (rd s0_0 (Int.tmod (wrap64 ((wrap64 (s0_1 + 1)) - 1)) (s0_0.length : Int)))) * 131)) + (wrap64 ((wrap64 (rd s0_0 (Int.tmod (wrap64 ((wrap64 ((wrap64 ((wrap64 (s0_1 + 1)) - 1)) * 7)) + 3)) (s0_0.length : Int)))) * 1117)))) + (wrap64 ((wrap64 ((wrap64 (s0_1 + 1)) - 1)) * 29)))) + (wrap64 ((wrap64 (Int.tdiv (wrap64 ((wrap64 (s0_1 + 1)) - 1)) (s0_0.length : Int))) * 53)))) 64))) a1, (wrap64 (s0_1 + 1))))) else (none)) else (none)) else (none)) else (none)))) = some (r1, r2) := by rw [if_neg (show ¬ (false = true) by decide)] at H; exact H
        clear H
        have H := H1
        clear H1
        by_cases c8 : (wrap64 ((wrap64 (s0_1 + 1)) - 1)) < (s0_0.length : Int)
        · rw [if_pos c8] at H
          have c8b0 : decide ((wrap64 ((wrap64 (s0_1 + 1)) - 1)) < (s0_0.length : Int)) = true := decide_eq_true c8
          clear c8
          obtain ⟨ji9, hji9⟩ : ∃ j_ : Int, (wrap64 ((wrap64 (s0_1 + 1)) - 1)) = j_ := ⟨_, rfl⟩
          replace H : (if 0 ≤ (ji9) then (if a1 = 0 then (none) else (some (Int.tmod (wrap64 (rd s0_0 (ji9))) a1, (wrap64 (s0_1 + 1))))) else (none)) = some (r1, r2) := by first | (rw [hji9] at H; exact H) | (simp only [hji9] at H ⊢; exact H)
          (try rw [hji9] at c8b0)
          have hji9w : (IntKind.i64.wrap ((wrap64 (s0_1 + 1)) - 1)) = ji9 := (i64_w _).trans hji9
          by_cases c10 : 0 ≤ (ji9)
          · rw [if_pos c10] at H
            have c10b0 : decide (0 ≤ (ji9)) = true := decide_eq_true c10
            clear c10
            by_cases c11 : a1 = 0
            · rw [if_pos c11] at H
              exact absurd H (by simp)
            · rw [if_neg c11] at H
              have c11b0 : (a1 == 0) = false := beq_eq_false_iff_ne.mpr c11
              have c11b1 : (a1 != 0) = true := bne_iff_ne.mpr c11
              simp only [Option.some.injEq, Prod.mk.injEq] at H
              obtain ⟨rfl, rfl⟩ := H
              obtain ⟨ASz12_0, cSz12_0, HGz12, hgz12, HSz12_0⟩ := HI0.out
              have hcz12_0 := cellS61_0 HGz12
              have hcz12_1 := cellS61_1 HGz12
              have hfz12_1 := blk_frozen HGz12 1
              clear HGz12 hgz12
              have p101 : 0 ≤ ((ji9) : Int) := of_decide_eq_true qq3
              have q101 : (ji9) < (s0_0.length : Int) := of_decide_eq_true qq3
              obtain ⟨ad101, e101, hx101_0⟩ := Kd.at_int HSz12_0 (ji9) p101 q101
              cases e101
              replace hx101_0 := pw_cell_below HB.out hx101_0
              replace p101 := eq_true p101
              replace q101 := eq_true q101
              go_wp2
              repeat (go_quiet (fail); try go_wp2)
              go_ret
              exact ⟨by first | rfl | (simp [errW_none, errW_some] <;> rfl) | (simp only [← hji9]; first | rfl | (simp [errW_none, errW_some] <;> rfl)) | (simp [*, errW_none, errW_some] <;> rfl), qq9, qq8, qq6⟩
          · rw [if_neg c10] at H
            exact absurd H (by simp)
        · rw [if_neg c8] at H
          have c8b0 : decide ((wrap64 ((wrap64 (s0_1 + 1)) - 1)) < (s0_0.length : Int)) = false := decide_eq_false c8
          clear c8
          by_cases c13 : (s0_0.length : Int) = 0
          · rw [if_pos c13] at H
            exact absurd H (by simp)
          · rw [if_neg c13] at H
            have c13b0 : ((s0_0.length : Int) == 0) = false := beq_eq_false_iff_ne.mpr c13
            have c13b1 : ((s0_0.length : Int) != 0) = true := bne_iff_ne.mpr c13
            have c13b2 : ¬ (s0_0 = []) := fun h_ => c13 (by rw [h_]; rfl)
            obtain ⟨ji14, hji14⟩ : ∃ j_ : Int, (Int.tmod (wrap64 ((wrap64 (s0_1 + 1)) - 1)) (s0_0.length : Int)) = j_ := ⟨_, rfl⟩
            replace H : (if 0 ≤ (ji14) then (if (ji14) < (s0_0.length : Int) then (if 0 ≤ (Int.tmod (wrap64 ((wrap64 ((wrap64 ((wrap64 (s0_1 + 1)) - 1)) * 7)) + 3)) (s0_0.length : Int)) then (if (Int.tmod (wrap64 ((wrap64 ((wrap64 ((wrap64 (s0_1 + 1)) - 1)) * 7)) + 3)) (s0_0.length : Int)) < (s0_0.length : Int) then (if a1 = 0 then (none) else (some (Int.tmod (Go.bits .xor .i64 (wrap64 ((wrap64 ((wrap64 ((wrap64 ((wrap64 (rd s0_0 (ji14))) * 131)) + (wrap64 ((wrap64 (rd s0_0 (Int.tmod (wrap64 ((wrap64 ((wrap64 ((wrap64 (s0_1 + 1)) - 1)) * 7)) + 3)) (s0_0.length : Int)))) * 1117)))) + (wrap64 ((wrap64 ((wrap64 (s0_1 + 1)) - 1)) * 29)))) + (wrap64 ((wrap64 (Int.tdiv (wrap64 ((wrap64 (s0_1 + 1)) - 1)) (s0_0.length : Int))) * 53)))) (wrap64 (Int.tdiv (wrap64 ((wrap64 ((wrap64 ((wrap64 ((wrap64 (rd s0_0 (ji14))) * 131)) + (wrap64 ((wrap64 (rd s0_0 (Int.tmod (wrap64 ((wrap64 ((wrap64 ((wrap64 (s0_1 + 1)) - 1)) * 7)) + 3)) (s0_0.length : Int)))) * 1117)))) + (wrap64 ((wrap64 ((wrap64 (s0_1 + 1)) - 1)) * 29)))) + (wrap64 ((wrap64 (Int.tdiv (wrap64 ((wrap64 (s0_1 + 1)) - 1)) (s0_0.length : Int))) * 53)))) 64))) a1, (wrap64 (s0_1 + 1))))) else (none)) else (none)) else (none)) else (none)) = some (r1, r2) := by first | (rw [hji14] at H; exact H) | (simp only [hji14] at H ⊢; exact H)
            by_cases c15 : 0 ≤ (ji14)
            · rw [if_pos c15] at H
              have c15b0 : decide (0 ≤ (ji14)) = true := decide_eq_true c15
              clear c15
              by_cases c16 : (ji14) < (s0_0.length : Int)
              · rw [if_pos c16] at H
                have c16b0 : decide ((ji14) < (s0_0.length : Int)) = true := decide_eq_true c16
                clear c16
                obtain ⟨ji17, hji17⟩ : ∃ j_ : Int, (Int.tmod (wrap64 ((wrap64 ((wrap64 ((wrap64 (s0_1 + 1)) - 1)) * 7)) + 3)) (s0_0.length : Int)) = j_ := ⟨_, rfl⟩
                replace H : (if 0 ≤ (ji17) then (if (ji17) < (s0_0.length : Int) then (if a1 = 0 then (none) else (some (Int.tmod (Go.bits .xor .i64 (wrap64 ((wrap64 ((wrap64 ((wrap64 ((wrap64 (rd s0_0 (ji14))) * 131)) + (wrap64 ((wrap64 (rd s0_0 (ji17))) * 1117)))) + (wrap64 ((wrap64 ((wrap64 (s0_1 + 1)) - 1)) * 29)))) + (wrap64 ((wrap64 (Int.tdiv (wrap64 ((wrap64 (s0_1 + 1)) - 1)) (s0_0.length : Int))) * 53)))) (wrap64 (Int.tdiv (wrap64 ((wrap64 ((wrap64 ((wrap64 ((wrap64 (rd s0_0 (ji14))) * 131)) + (wrap64 ((wrap64 (rd s0_0 (ji17))) * 1117)))) + (wrap64 ((wrap64 ((wrap64 (s0_1 + 1)) - 1)) * 29)))) + (wrap64 ((wrap64 (Int.tdiv (wrap64 ((wrap64 (s0_1 + 1)) - 1)) (s0_0.length : Int))) * 53)))) 64))) a1, (wrap64 (s0_1 + 1))))) else (none)) else (none)) = some (r1, r2) := by first | (rw [hji17] at H; exact H) | (simp only [hji17] at H ⊢; exact H)
                by_cases c18 : 0 ≤ (ji17)
                · rw [if_pos c18] at H
                  have c18b0 : decide (0 ≤ (ji17)) = true := decide_eq_true c18
                  clear c18
                  by_cases c19 : (ji17) < (s0_0.length : Int)
                  · rw [if_pos c19] at H
                    have c19b0 : decide ((ji17) < (s0_0.length : Int)) = true := decide_eq_true c19
                    clear c19
                    by_cases c20 : a1 = 0
                    · rw [if_pos c20] at H
                      exact absurd H (by simp)
                    · rw [if_neg c20] at H
                      have c20b0 : (a1 == 0) = false := beq_eq_false_iff_ne.mpr c20
                      have c20b1 : (a1 != 0) = true := bne_iff_ne.mpr c20
                      simp only [Option.some.injEq, Prod.mk.injEq] at H
                      obtain ⟨rfl, rfl⟩ := H
                      obtain ⟨ASz21_0, cSz21_0, HGz21, hgz21, HSz21_0⟩ := HI0.out
                      have hcz21_0 := cellS61_0 HGz21
                      have hcz21_1 := cellS61_1 HGz21
                      have hfz21_1 := blk_frozen HGz21 1
                      clear HGz21 hgz21
                      have p102 : 0 ≤ ((ji14) : Int) := of_decide_eq_true qq3
                      have q102 : (ji14) < (s0_0.length : Int) := of_decide_eq_true qq3
                      obtain ⟨ad102, e102, hx102_0⟩ := Kd.at_int HSz21_0 (ji14) p102 q102
                      cases e102
                      replace hx102_0 := pw_cell_below HB.out hx102_0
                      replace p102 := eq_true p102
                      replace q102 := eq_true q102
                      have p103 : 0 ≤ ((ji17) : Int) := of_decide_eq_true qq3
                      have q103 : (ji17) < (s0_0.length : Int) := of_decide_eq_true qq3
                      obtain ⟨ad103, e103, hx103_0⟩ := Kd.at_int HSz21_0 (ji17) p103 q103
                      obtain rfl : ad102 = ad103 := (by injection e103)
                      replace hx103_0 := pw_cell_below HB.out hx103_0
                      replace p103 := eq_true p103
                      replace q103 := eq_true q103
                      go_wp2
                      repeat (go_quiet (fail); try go_wp2)
                      go_ret
                      exact ⟨by first | rfl | (simp [errW_none, errW_some] <;> rfl) | (simp only [← hji14, ← hji17]; first | rfl | (simp [errW_none, errW_some] <;> rfl)) | (simp [*, errW_none, errW_some] <;> rfl), qq9, qq8, qq6⟩
                  · rw [if_neg c19] at H
                    exact absurd H (by simp)
                · rw [if_neg c18] at H
                  exact absurd H (by simp)
              · rw [if_neg c16] at H
                exact absurd H (by simp)
            · rw [if_neg c15] at H
              exact absurd H (by simp)

end Go.Proofs.Ytmcfhmflncghiaa.Q
