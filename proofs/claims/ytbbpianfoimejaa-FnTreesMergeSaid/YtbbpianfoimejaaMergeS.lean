/- The merged net, as the reference makes it: the walk. -/
import Derived.Test.YtbbpianfoimejaaMergeW
import Derived.Test.YtbbpianfoimejaaQ2
import Derived.Test.YtbbpianfoimejaaQ4
import Derived.Test.YtbbpianfoimejaaQ6
namespace Go.Proofs.Ytbbpianfoimejaa.MergeW
open Go.RowKit Go.Proofs.Ytbbpianfoimejaa.Q Go.Proofs.Ytbbpianfoimejaa.Pure Go.Proofs.YtbbpianfoimejaaW.PrintWords Go.Proofs.YtbbpianfoimejaaW.PrintLast Go.Proofs.YtbbpianfoimejaaW.PrintMore
set_option linter.unusedVariables false
set_option linter.unusedSimpArgs false
attribute [local go_sem] max2_int min2_int max_two min_two max_three min_three max_four min_four   -- for this text's walks alone
theorem l22_eq (lo hi x : Int) : spec_l22Number.f x lo hi = some (num lo hi x) := by
  unfold spec_l22Number.f num
  split
  · rfl
  · split <;> rfl
/-- A run in a variable, and the row so far. -/
structure BoxS (wb w4 : World) (g : Nat) (a b c d : Int) (v : Value) (xs : List Run) : Prop where
  blk : w4.heap[g]? = some (.cells #[.int .i64 a, .int .i64 b, .int .i64 c, .int .i64 d] 46 (0, 0))
  R : Kd.R k46 46 w4 wb.heap.size (fun k => True ∧ k ≠ g) v xs
  be : Below wb.heap.size wb w4
  le : wb.heap.size ≤ g
theorem boxS {wb wr w29 : World} {gb : Nat} {v : Value} {xs : List Run} (hg : gb = wr.heap.size) (hbox : w29.heap[gb]? = some (.cells #[.int .i64 0, .int .i64 0, .int .i64 0, .int .i64 0] 46 (0, 0))) (hb : Below wr.heap.size wr w29)
    (HO : Kd.R k46 46 wr wb.heap.size (fun _ => True) v xs) (HW : Below wb.heap.size wb wr) (a b c d : Int) : BoxS wb (put4 w29 gb a b c d) gb a b c d v xs := by
  have hs := HW.size
  exact ⟨put4_blk hbox, put4_R (Kd.R_below (Kd.R_elderB HO gb (Nat.le_of_eq hg.symm)) hb), put4_below (HW.trans (hb.mono hs)) (by omega), by omega⟩
theorem BoxS.drewN {wb w4 : World} {g : Nat} {a b c d : Int} {v : Value} {xs : List Run} (h : BoxS wb w4 g a b c d v xs) (n : Nat) : BoxS wb (w4.drewN n) g a b c d v xs :=
  ⟨blk_drewN h.blk n, Kd.R_drewN h.R n, pw_below_drewN h.be n, h.le⟩
theorem BoxS.set0 {wb w4 : World} {g : Nat} {a b c d : Int} {v : Value} {xs : List Run} (h : BoxS wb w4 g a b c d v xs) (x : Int) : BoxS wb (w4.setCell ⟨g, 0, none⟩ (.int .i64 x)) g x b c d v xs :=
  ⟨blk_put h.blk 0 _ rfl, Kd.R_far h.R (fun _ hk => hk.2) _, h.be.setCell (p := ⟨g, 0, none⟩) h.le _, h.le⟩
theorem BoxS.set1 {wb w4 : World} {g : Nat} {a b c d : Int} {v : Value} {xs : List Run} (h : BoxS wb w4 g a b c d v xs) (x : Int) : BoxS wb (w4.setCell ⟨g, 1, none⟩ (.int .i64 x)) g a x c d v xs :=
  ⟨blk_put h.blk 1 _ rfl, Kd.R_far h.R (fun _ hk => hk.2) _, h.be.setCell (p := ⟨g, 1, none⟩) h.le _, h.le⟩
theorem n6_eq (a b c : Int) : spec_l6In.f a b c = some (decide (b ≤ a ∧ a ≤ c)) := n6In_eq a b c
set_option maxHeartbeats 8000000 in
set_option maxRecDepth 100000 in
theorem specMerge_calls (n kk : Int) (A1 : Option Addr) (c1 : Nat) (l : List Run) (w : World) (hr1 : Kd.C k46 w A1 l.length l) (hc1 : l.length ≤ c1) (hv : nvB n l = true) (h0 : 0 ≤ kk) (h1 : kk < l.length) (h3 : 3 ≤ n) :
    Calls Try.prog 24 #[.int .i64 n, .slice A1 l.length c1, .int .i64 kk] w fun e w' => ∃ v1_ : Value, e = .returned (.tuple #[.int .i64 (wrap64 (n - 1)), v1_, .bool true]) ∧ Kd.R k46 46 w' w.heap.size (fun _ => True) v1_ (mgs (loK l kk) (hiK l kk) l) ∧ Below w.heap.size w w' := by
  have hn := Aside0.mk (nvB_n hv)
  have HR1 := Aside0.mk hr1
  have HC1 := Aside0.mk hc1
  have HB := Aside0.mk (Below.refl w.heap.size w)
  obtain ⟨ad, e0, x0, x1, x2, x3⟩ := at_T46 hr1 kk h0 h1
  subst e0
  have A5 := Aside0.mk ((spec_NetValid_eq 41 n l (by omega)).trans (congrArg some hv))
  have e3 : wrap64 ((l.length : Int) - 1) = (l.length : Int) - 1 := nw64 (by omega) (by have := hn.out; omega)
  have A6 := Aside0.mk ((n6_eq kk 0 (wrap64 ((l.length : Int) - 1))).trans (congrArg some (decide_eq_true (by rw [e3]; omega))))
  clear e3
  have e2 : decide (n < 3) = false := decide_eq_false (by omega)
  have p0 := eq_true h0
  have q0 := eq_true h1
  have X0 := Aside0.mk x0
  have X1 := Aside0.mk x1
  clear hr1 hc1 hv h0 h1 x0 x1 x2 x3 h3
  go_enter Try.func24, Try.ntmps24
  go_upto_region 3 with (first | (go_at_call 35; (with_reducible refine (spec_NetValid.calls 41 n _ _ l true _ ?side1 ?side2 A5.out).mono ?_); (case side1 => exact HR1.out); (case side2 => exact HC1.out); rintro e w9 ⟨rfl, hb⟩; have n0_ := Aside0.mk (below_step HB.out hb); clear HB; have HB := n0_; clear n0_ hb) | (go_at_call 36; (with_reducible refine (spec_l6In.calls kk 0 (wrap64 ((l.length : Int) - 1)) true _ A6.out).mono ?_); rintro e w' ⟨rfl, ⟨nd, rfl⟩⟩))
  have hb1 : Below w.heap.size w (w9.drewN nd) := pw_below_drewN HB.out _
  clear HB A5 A6
  generalize (w9.drewN nd) = wa at hb1 ⊢
  have x0 := (hb1.cell (World.block_lt_of_cell? w _ X0.out)).trans X0.out
  have x1 := (hb1.cell (World.block_lt_of_cell? w _ X1.out)).trans X1.out
  have HB := Aside0.mk hb1
  clear hb1 X0 X1
  go_quiet (fail)
  revert nq
  intro nq1
  go_upto_region 4 with (fail)
  go_quiet (fail)
  generalize hlo : (if (rd_T46 l kk).f1 < (rd_T46 l kk).f0 then (rd_T46 l kk).f1 else (rd_T46 l kk).f0) = lo
  generalize hhi : (if (rd_T46 l kk).f0 < (rd_T46 l kk).f1 then (rd_T46 l kk).f1 else (rd_T46 l kk).f0) = hi
  obtain rfl : lo = loK l kk := by unfold loK; omega
  obtain rfl : hi = hiK l kk := by unfold hiK; omega
  clear hlo hhi x0 x1
  rw [World.drewN_drewN]
  generalize nq1 + nq = nr
  have hb1 : Below w.heap.size w (wa.drewN nr) := pw_below_drewN HB.out _
  clear HB
  generalize (wa.drewN nr) = wb at hb1 ⊢
  have HB := Aside0.mk hb1
  clear hb1
  go_wp2_with (first | ((with_reducible refine gate_dst (N := 53) rfl ?_); (try (refine gate_guard (by rfl) ?_; dsimp only)); refine Kd.R_lit k46 _ 46 ?hg (N := 53) ?hd (xs := ([] : List Run)) (inner := []) (ok := fun _ => True) (okp := fun _ => True) ?hr ?hp (fun _ hk => hk) trivial (Below.refl _ _) (Nat.le_refl _) (by simp) ?_; (case hd => rfl); (case hg => rfl); (case hr => first | (go_simp; done) | (go_simp; rfl)); (case hp => exact (Reps.none _ _)); intro v345 w19 ho20 hb hg_ hnew_))
  have HO0 := Aside0.mk ho20
  have HW0 := Aside0.mk hb
  clear ho20 hb hg_ hnew_
  go_loopw [11, 12] (fun v11 v12 wr => ∃ i : Nat, i ≤ l.length ∧ v12 = .int .i64 i ∧ Aside0 (Kd.R k46 46 wr wb.heap.size (fun _ => True) v11 (mgs (loK l kk) (hiK l kk) (l.take i))) ∧ Aside0 (Below wb.heap.size wb wr)) (fun _ v12 _ => l.length - (intOf v12).toNat)
  case atStart => exact ⟨0, Nat.zero_le _, rfl, ⟨by simpa [mgs] using HO0.out⟩, HW0⟩
  case round =>
    clear HO0 HW0
    obtain ⟨i, hi, rfl, HO, HW⟩ := hrel
    by_cases hlt : i < l.length
    · have hb2 : Below w.heap.size w wr := HB.out.trans (HW.out.mono HB.out.size)
      obtain ⟨ad', e', x0, x1, x2, x3⟩ := at_T46 HR1.out i (by omega) (by omega)
      obtain rfl : ad = ad' := by injection e'
      rw [Int.toNat_natCast] at x0 x1 x2 x3
      replace x0 := (hb2.cell (World.block_lt_of_cell? w _ x0)).trans x0
      replace x1 := (hb2.cell (World.block_lt_of_cell? w _ x1)).trans x1
      replace x2 := (hb2.cell (World.block_lt_of_cell? w _ x2)).trans x2
      replace x3 := (hb2.cell (World.block_lt_of_cell? w _ x3)).trans x3
      have q0 := eq_true (show (0 : Int) ≤ (i : Int) by omega)
      have q1 := eq_true (show (i : Int) < (l.length : Int) by omega)
      go_upto_region 10 with (first | ((with_reducible refine gate_dst (N := 13) rfl ?_); (try (refine gate_guard (by rfl) ?_; dsimp only)); refine box_event ?hg (N := 13) ?hd (cs := #[.int .i64 0, .int .i64 0, .int .i64 0, .int .i64 0]) (t := 46) ?hr ?_; (case hd => rfl); (case hg => rfl); (case hr => first | (go_simp; done) | (go_simp; rfl)); intro gb hg w29 hbox hb; have KK := Aside0.mk (boxS hg hbox hb HO.out HW.out (rd_T46 l i).f0 (rd_T46 l i).f1 (rd_T46 l i).f2 (rd_T46 l i).f3); have hcz0 : w29.cell? ⟨gb, 0, none⟩ = some (.int .i64 0) := (blk_cell hbox 0).trans rfl; have hcz1 : w29.cell? ⟨gb, 1, none⟩ = some (.int .i64 0) := (blk_cell hbox 1).trans rfl; have hcz2 : w29.cell? ⟨gb, 2, none⟩ = some (.int .i64 0) := (blk_cell hbox 2).trans rfl; have hcz3 : w29.cell? ⟨gb, 3, none⟩ = some (.int .i64 0) := (blk_cell hbox 3).trans rfl; have hfz0 := blk_frozen hbox 0; have hfz1 := blk_frozen hbox 1; have hfz2 := blk_frozen hbox 2; have hfz3 := blk_frozen hbox 3; clear hbox hb hg))
      clear hcz0 hcz1 hcz2 hcz3 hfz0 hfz1 hfz2 hfz3 x0 x1 x2 x3 hb2
      replace KK := KK.out
      unfold put4 at KK
      generalize ((((w29.setCell ⟨gb, 0, none⟩ (.int .i64 (rd_T46 l i).f0)).setCell ⟨gb, 1, none⟩ (.int .i64 (rd_T46 l i).f1)).setCell ⟨gb, 2, none⟩ (.int .i64 (rd_T46 l i).f2)).setCell ⟨gb, 3, none⟩ (.int .i64 (rd_T46 l i).f3)) = w4 at KK ⊢
      clear HW HO
      have k0 : w4.cell? ⟨gb, 0, none⟩ = some (.int .i64 (rd_T46 l i).f0) := (blk_cell KK.blk 0).trans rfl
      have f0 := blk_frozen KK.blk 0
      replace KK := Aside0.mk KK
      go_upto_region 11 with (first | (go_at_call 42; (with_reducible refine (spec_l22Number.calls _ _ _ _ _ (l22_eq (loK l kk) (hiK l kk) (rd_T46 l i).f0)).mono ?_); rintro e w' ⟨rfl, ⟨nd, rfl⟩⟩))
      replace KK := (KK.out.drewN nd).set0 (num (loK l kk) (hiK l kk) (rd_T46 l i).f0)
      clear k0 f0
      generalize ((w4.drewN nd).setCell ⟨gb, 0, none⟩ (.int .i64 (num (loK l kk) (hiK l kk) (rd_T46 l i).f0))) = w5 at KK ⊢
      have k0 : w5.cell? ⟨gb, 1, none⟩ = some (.int .i64 (rd_T46 l i).f1) := (blk_cell KK.blk 1).trans rfl
      have f0 := blk_frozen KK.blk 1
      replace KK := Aside0.mk KK
      go_upto_region 12 with (first | (go_at_call 42; (with_reducible refine (spec_l22Number.calls _ _ _ _ _ (l22_eq (loK l kk) (hiK l kk) (rd_T46 l i).f1)).mono ?_); rintro e w' ⟨rfl, ⟨nd2, rfl⟩⟩))
      replace KK := (KK.out.drewN nd2).set1 (num (loK l kk) (hiK l kk) (rd_T46 l i).f1)
      clear k0 f0
      generalize ((w5.drewN nd2).setCell ⟨gb, 1, none⟩ (.int .i64 (num (loK l kk) (hiK l kk) (rd_T46 l i).f1))) = w6 at KK ⊢
      have k0 : w6.cell? ⟨gb, 0, none⟩ = some (.int .i64 (num (loK l kk) (hiK l kk) (rd_T46 l i).f0)) := (blk_cell KK.blk 0).trans rfl
      have k1 : w6.cell? ⟨gb, 1, none⟩ = some (.int .i64 (num (loK l kk) (hiK l kk) (rd_T46 l i).f1)) := (blk_cell KK.blk 1).trans rfl
      have k2 : w6.cell? ⟨gb, 2, none⟩ = some (.int .i64 (rd_T46 l i).f2) := (blk_cell KK.blk 2).trans rfl
      have k3 : w6.cell? ⟨gb, 3, none⟩ = some (.int .i64 (rd_T46 l i).f3) := (blk_cell KK.blk 3).trans rfl
      replace KK := Aside0.mk KK
      have hT : l.take (i + 1) = l.take i ++ [rd_T46 l i] := take_rd l i hlt
      have lx : (mgs (loK l kk) (hiK l kk) (l.take i)).length ≤ 12 := Nat.le_trans (mgs_len _ _ _) (by have := hn.out; simp; omega)
      have e9 : wrap64 ((i : Int) + 1) = ((i + 1 : Nat) : Int) := by rw [nw64 (by omega) (by have := hn.out; omega)]; omega
      by_cases c : num (loK l kk) (hiK l kk) (rd_T46 l i).f0 = num (loK l kk) (hiK l kk) (rd_T46 l i).f1
      · have hT2 : mgs (loK l kk) (hiK l kk) (l.take (i + 1)) = mgs (loK l kk) (hiK l kk) (l.take i) := by rw [hT, mgs_snoc, mgo, if_pos c]; simp
        have cb : (num (loK l kk) (hiK l kk) (rd_T46 l i).f0 != num (loK l kk) (hiK l kk) (rd_T46 l i).f1) = false := by simpa using c
        go_wp2
        go_roundw
        case rel => exact ⟨i + 1, by omega, by rw [e9], ⟨by rw [hT2]; exact Kd.R_mono KK.out.R (fun _ _ => trivial)⟩, ⟨KK.out.be⟩⟩
        case measure => exact meas_up hlt e9
      · have hT2 : mgs (loK l kk) (hiK l kk) (l.take (i + 1)) = mgs (loK l kk) (hiK l kk) (l.take i) ++ [⟨num (loK l kk) (hiK l kk) (rd_T46 l i).f0, num (loK l kk) (hiK l kk) (rd_T46 l i).f1, (rd_T46 l i).f2, (rd_T46 l i).f3⟩] := by rw [hT, mgs_snoc, mgo, if_neg c]
        have cb : (num (loK l kk) (hiK l kk) (rd_T46 l i).f0 != num (loK l kk) (hiK l kk) (rd_T46 l i).f1) = true := by simpa using c
        go_wp2_with (first | ((with_reducible refine gate_builtin (b := .append) (xs := #[.tmp 81, .tmp 83]) rfl ?_); (try (refine gate_guard (by rfl) ?_; dsimp only)); at_builtin; refine Kd.R_append k46 (w0 := wb) wb.heap.size rfl (.tmp 81) (.tmp 83) 24 46 (.agg #[(.int .i64 0), (.int .i64 0), (.int .i64 0), (.int .i64 0)]) 32 rfl Try.underlying24 info46 rfl (by decide) (by omega) u11 (mgs (loK l kk) (hiK l kk) (l.take i)) (⟨num (loK l kk) (hiK l kk) (rd_T46 l i).f0, num (loK l kk) (hiK l kk) (rd_T46 l i).f1, (rd_T46 l i).f2, (rd_T46 l i).f3⟩ : Run) [.int .i64 (num (loK l kk) (hiK l kk) (rd_T46 l i).f0), .int .i64 (num (loK l kk) (hiK l kk) (rd_T46 l i).f1), .int .i64 ((rd_T46 l i).f2), .int .i64 ((rd_T46 l i).f3)] (fun _ => True) (fun _ => False) rfl (by first | (go_simp; done) | (go_simp; rfl)) (k46_mkM _ _ _ (⟨num (loK l kk) (hiK l kk) (rd_T46 l i).f0, num (loK l kk) (hiK l kk) (rd_T46 l i).f1, (rd_T46 l i).f2, (rd_T46 l i).f3⟩ : Run)) (fun _ hk => hk.elim) (fun _ _ => trivial) (Kd.R_mono KK.out.R (fun _ _ => trivial)) KK.out.be KK.out.be.size (by omega) ?_; intro v352 w31 ho hb hg hat; have HO2 := Aside0.mk ho; have HB2 := Aside0.mk hb; clear ho hb hg hat))
        go_roundw
        case rel => exact ⟨i + 1, by omega, by rw [e9], ⟨by rw [hT2]; exact HO2.out⟩, HB2⟩
        case measure => exact meas_up hlt e9
    · obtain rfl : i = l.length := by omega
      go_wp2
      go_ret3
      refine ⟨_, rfl, ?_, HB.out.trans (HW.out.mono HB.out.size)⟩
      have h := HO.out
      rw [List.take_length] at h
      exact Kd.R_lower h HB.out.size
end Go.Proofs.Ytbbpianfoimejaa.MergeW
