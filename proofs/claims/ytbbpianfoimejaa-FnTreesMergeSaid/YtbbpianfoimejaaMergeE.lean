/- The merged net: the program's and the reference's contracts, for all arguments. -/
import Derived.Test.YtbbpianfoimejaaMergeS
namespace Go.Proofs.Ytbbpianfoimejaa.MergeW
open Go.RowKit Go.Proofs.Ytbbpianfoimejaa.Q Go.Proofs.Ytbbpianfoimejaa.Pure Go.Proofs.YtbbpianfoimejaaW.PrintWords Go.Proofs.YtbbpianfoimejaaW.PrintLast Go.Proofs.YtbbpianfoimejaaW.PrintMore
set_option linter.unusedVariables false
set_option linter.unusedSimpArgs false
/-- What both answer. -/
def mrR (n : Int) (l : List Run) (k : Int) : Int × List Run × Bool := if nvB n l = true ∧ 0 ≤ k ∧ k < l.length ∧ 3 ≤ n then (n - 1, mgs (loK l k) (hiK l k) l, true) else (0, [], false)
set_option maxHeartbeats 4000000 in
set_option maxRecDepth 100000 in
theorem netMerge_none (n kk : Int) (A1 : Option Addr) (c1 : Nat) (l : List Run) (w : World) (hr1 : Kd.C k46 w A1 l.length l) (hc1 : l.length ≤ c1) (hh : ¬ (nvB n l = true ∧ 0 ≤ kk ∧ kk < l.length ∧ 3 ≤ n)) :
    Calls Try.prog 25 #[.int .i64 n, .slice A1 l.length c1, .int .i64 kk] w fun e w' => ∃ v1_ : Value, e = .returned (.tuple #[.int .i64 0, v1_, .bool false]) ∧ Kd.R k46 46 w' w.heap.size (fun _ => True) v1_ ([] : List Run) ∧ Below w.heap.size w w' := by
  have HB := Aside0.mk (Below.refl w.heap.size w)
  by_cases c : nvB n l = true ∧ 0 ≤ kk ∧ kk < l.length
  · have A5 := Aside0.mk ((hasRun_eq' 21 n l kk (by omega)).trans (congrArg some (decide_eq_true c)))
    have hn := nvB_n c.1
    have e1 : wrap64 (n - 1) = n - 1 := nw64 (by omega) (by omega)
    have e2 : decide (n - 1 < 2) = true := decide_eq_true (by
      have : ¬ 3 ≤ n := fun h => hh ⟨c.1, c.2.1, c.2.2, h⟩
      omega)
    clear c hh
    go_enter Try.func25, Try.ntmps25
    go_wp2_with (first | ((with_reducible refine gate_dst (N := 27) rfl ?_); (try (refine gate_guard (by rfl) ?_; dsimp only)); refine Kd.R_lit k46 _ 46 ?hg (N := 27) ?hd (xs := ([] : List Run)) (inner := []) (ok := fun _ => True) (okp := fun _ => True) ?hr ?hp (fun _ hk => hk) trivial (Below.refl _ _) (Nat.le_refl _) (by simp) ?_; (case hd => rfl); (case hg => rfl); (case hr => first | (go_simp; done) | (go_simp; rfl)); (case hp => exact (Reps.none _ _)); intro v345 w19 ho20 hb hg_ hnew_; have HO := Aside0.mk (Kd.R_lower ho20 (below_size (by repeat (first | exact HB.out | apply pw_below_drewN)))); have HB2 := Aside0.mk (below_step (by repeat (first | exact HB.out | apply pw_below_drewN)) hb); clear HB; have HB := HB2; clear HB2 ho20 hb hg_ hnew_) | (go_at_call 38; (with_reducible refine (impl_hasRun.calls 21 n _ _ l kk true _ ?side1 ?side2 A5.out).mono ?_); (case side1 => exact hr1); (case side2 => exact hc1); rintro e w9 ⟨rfl, hb⟩; have n0_ := Aside0.mk (below_step HB.out hb); clear HB; have HB := n0_; clear n0_ hb))
    go_ret3
    exact ⟨_, rfl, HO.out, HB.out⟩
  · have A5 := Aside0.mk ((hasRun_eq' 21 n l kk (by omega)).trans (congrArg some (decide_eq_false c)))
    go_enter Try.func25, Try.ntmps25
    go_wp2_with (first | ((with_reducible refine gate_dst (N := 27) rfl ?_); (try (refine gate_guard (by rfl) ?_; dsimp only)); refine Kd.R_lit k46 _ 46 ?hg (N := 27) ?hd (xs := ([] : List Run)) (inner := []) (ok := fun _ => True) (okp := fun _ => True) ?hr ?hp (fun _ hk => hk) trivial (Below.refl _ _) (Nat.le_refl _) (by simp) ?_; (case hd => rfl); (case hg => rfl); (case hr => first | (go_simp; done) | (go_simp; rfl)); (case hp => exact (Reps.none _ _)); intro v345 w19 ho20 hb hg_ hnew_; have HO := Aside0.mk (Kd.R_lower ho20 (below_size (by repeat (first | exact HB.out | apply pw_below_drewN)))); have HB2 := Aside0.mk (below_step (by repeat (first | exact HB.out | apply pw_below_drewN)) hb); clear HB; have HB := HB2; clear HB2 ho20 hb hg_ hnew_) | (go_at_call 38; (with_reducible refine (impl_hasRun.calls 21 n _ _ l kk false _ ?side1 ?side2 A5.out).mono ?_); (case side1 => exact hr1); (case side2 => exact hc1); rintro e w9 ⟨rfl, hb⟩; have n0_ := Aside0.mk (below_step HB.out hb); clear HB; have HB := n0_; clear n0_ hb))
    go_ret3
    exact ⟨_, rfl, HO.out, HB.out⟩
set_option maxHeartbeats 4000000 in
set_option maxRecDepth 100000 in
theorem specMerge_none (n kk : Int) (A1 : Option Addr) (c1 : Nat) (l : List Run) (w : World) (hr1 : Kd.C k46 w A1 l.length l) (hc1 : l.length ≤ c1) (hh : ¬ (nvB n l = true ∧ 0 ≤ kk ∧ kk < l.length ∧ 3 ≤ n)) :
    Calls Try.prog 24 #[.int .i64 n, .slice A1 l.length c1, .int .i64 kk] w fun e w' => ∃ v1_ : Value, e = .returned (.tuple #[.int .i64 0, v1_, .bool false]) ∧ Kd.R k46 46 w' w.heap.size (fun _ => True) v1_ ([] : List Run) ∧ Below w.heap.size w w' := by
  have HB := Aside0.mk (Below.refl w.heap.size w)
  have HR1 := Aside0.mk hr1
  have HC1 := Aside0.mk hc1
  clear hr1 hc1
  by_cases c : nvB n l = true
  · have A5 := Aside0.mk ((spec_NetValid_eq 41 n l (by omega)).trans (congrArg some c))
    have hn := nvB_n c
    have e3 : wrap64 ((l.length : Int) - 1) = (l.length : Int) - 1 := nw64 (by omega) (by omega)
    by_cases c2 : 0 ≤ kk ∧ kk < l.length
    · have A6 := Aside0.mk ((n6_eq kk 0 (wrap64 ((l.length : Int) - 1))).trans (congrArg some (decide_eq_true (by rw [e3]; omega))))
      have e2 : decide (n < 3) = true := decide_eq_true (by
        have : ¬ 3 ≤ n := fun h => hh ⟨c, c2.1, c2.2, h⟩
        omega)
      clear c hh c2 e3 hn
      go_enter Try.func24, Try.ntmps24
      go_wp2_with (first | ((with_reducible refine gate_dst (N := 30) rfl ?_); (try (refine gate_guard (by rfl) ?_; dsimp only)); refine Kd.R_lit k46 _ 46 ?hg (N := 30) ?hd (xs := ([] : List Run)) (inner := []) (ok := fun _ => True) (okp := fun _ => True) ?hr ?hp (fun _ hk => hk) trivial (Below.refl _ _) (Nat.le_refl _) (by simp) ?_; (case hd => rfl); (case hg => rfl); (case hr => first | (go_simp; done) | (go_simp; rfl)); (case hp => exact (Reps.none _ _)); intro v345 w19 ho20 hb hg_ hnew_; have HO := Aside0.mk (Kd.R_lower ho20 (below_size (by repeat (first | exact HB.out | apply pw_below_drewN)))); have HB2 := Aside0.mk (below_step (by repeat (first | exact HB.out | apply pw_below_drewN)) hb); clear HB; have HB := HB2; clear HB2 ho20 hb hg_ hnew_) | (go_at_call 35; (with_reducible refine (spec_NetValid.calls 41 n _ _ l true _ ?side1 ?side2 A5.out).mono ?_); (case side1 => exact HR1.out); (case side2 => exact HC1.out); rintro e w9 ⟨rfl, hb⟩; have n0_ := Aside0.mk (below_step HB.out hb); clear HB; have HB := n0_; clear n0_ hb) | (go_at_call 36; (with_reducible refine (spec_l6In.calls kk 0 (wrap64 ((l.length : Int) - 1)) true _ A6.out).mono ?_); rintro e w' ⟨rfl, ⟨nd, rfl⟩⟩))
      go_ret3
      exact ⟨_, rfl, HO.out, HB.out⟩
    · have A6 := Aside0.mk ((n6_eq kk 0 (wrap64 ((l.length : Int) - 1))).trans (congrArg some (decide_eq_false (by rw [e3]; omega))))
      clear c hh c2 e3 hn
      go_enter Try.func24, Try.ntmps24
      go_wp2_with (first | ((with_reducible refine gate_dst (N := 30) rfl ?_); (try (refine gate_guard (by rfl) ?_; dsimp only)); refine Kd.R_lit k46 _ 46 ?hg (N := 30) ?hd (xs := ([] : List Run)) (inner := []) (ok := fun _ => True) (okp := fun _ => True) ?hr ?hp (fun _ hk => hk) trivial (Below.refl _ _) (Nat.le_refl _) (by simp) ?_; (case hd => rfl); (case hg => rfl); (case hr => first | (go_simp; done) | (go_simp; rfl)); (case hp => exact (Reps.none _ _)); intro v345 w19 ho20 hb hg_ hnew_; have HO := Aside0.mk (Kd.R_lower ho20 (below_size (by repeat (first | exact HB.out | apply pw_below_drewN)))); have HB2 := Aside0.mk (below_step (by repeat (first | exact HB.out | apply pw_below_drewN)) hb); clear HB; have HB := HB2; clear HB2 ho20 hb hg_ hnew_) | (go_at_call 35; (with_reducible refine (spec_NetValid.calls 41 n _ _ l true _ ?side1 ?side2 A5.out).mono ?_); (case side1 => exact HR1.out); (case side2 => exact HC1.out); rintro e w9 ⟨rfl, hb⟩; have n0_ := Aside0.mk (below_step HB.out hb); clear HB; have HB := n0_; clear n0_ hb) | (go_at_call 36; (with_reducible refine (spec_l6In.calls kk 0 (wrap64 ((l.length : Int) - 1)) false _ A6.out).mono ?_); rintro e w' ⟨rfl, ⟨nd, rfl⟩⟩))
      go_ret3
      exact ⟨_, rfl, HO.out, HB.out⟩
  · have A5 := Aside0.mk ((spec_NetValid_eq 41 n l (by omega)).trans (congrArg some (Bool.eq_false_iff.2 c)))
    clear c hh
    go_enter Try.func24, Try.ntmps24
    go_wp2_with (first | ((with_reducible refine gate_dst (N := 30) rfl ?_); (try (refine gate_guard (by rfl) ?_; dsimp only)); refine Kd.R_lit k46 _ 46 ?hg (N := 30) ?hd (xs := ([] : List Run)) (inner := []) (ok := fun _ => True) (okp := fun _ => True) ?hr ?hp (fun _ hk => hk) trivial (Below.refl _ _) (Nat.le_refl _) (by simp) ?_; (case hd => rfl); (case hg => rfl); (case hr => first | (go_simp; done) | (go_simp; rfl)); (case hp => exact (Reps.none _ _)); intro v345 w19 ho20 hb hg_ hnew_; have HO := Aside0.mk (Kd.R_lower ho20 (below_size (by repeat (first | exact HB.out | apply pw_below_drewN)))); have HB2 := Aside0.mk (below_step (by repeat (first | exact HB.out | apply pw_below_drewN)) hb); clear HB; have HB := HB2; clear HB2 ho20 hb hg_ hnew_) | (go_at_call 35; (with_reducible refine (spec_NetValid.calls 41 n _ _ l false _ ?side1 ?side2 A5.out).mono ?_); (case side1 => exact HR1.out); (case side2 => exact HC1.out); rintro e w9 ⟨rfl, hb⟩; have n0_ := Aside0.mk (below_step HB.out hb); clear HB; have HB := n0_; clear n0_ hb))
    go_ret3
    exact ⟨_, rfl, HO.out, HB.out⟩
theorem netMerge_all (n kk : Int) (A1 : Option Addr) (c1 : Nat) (l : List Run) (w : World) (hr1 : Kd.C k46 w A1 l.length l) (hc1 : l.length ≤ c1) :
    Calls Try.prog 25 #[.int .i64 n, .slice A1 l.length c1, .int .i64 kk] w fun e w' => ∃ v1_ : Value, e = .returned (.tuple #[.int .i64 (mrR n l kk).1, v1_, .bool (mrR n l kk).2.2]) ∧ Kd.R k46 46 w' w.heap.size (fun _ => True) v1_ (mrR n l kk).2.1 ∧ Below w.heap.size w w' := by
  unfold mrR
  by_cases c : nvB n l = true ∧ 0 ≤ kk ∧ kk < l.length ∧ 3 ≤ n
  · rw [if_pos c]
    have h := netMerge_calls n kk A1 c1 l w hr1 hc1 c.1 c.2.1 c.2.2.1 c.2.2.2
    rwa [nw64 (x := n - 1) (by omega) (by have := nvB_n c.1; omega)] at h
  · rw [if_neg c]
    exact netMerge_none n kk A1 c1 l w hr1 hc1 c
theorem specMerge_all (n kk : Int) (A1 : Option Addr) (c1 : Nat) (l : List Run) (w : World) (hr1 : Kd.C k46 w A1 l.length l) (hc1 : l.length ≤ c1) :
    Calls Try.prog 24 #[.int .i64 n, .slice A1 l.length c1, .int .i64 kk] w fun e w' => ∃ v1_ : Value, e = .returned (.tuple #[.int .i64 (mrR n l kk).1, v1_, .bool (mrR n l kk).2.2]) ∧ Kd.R k46 46 w' w.heap.size (fun _ => True) v1_ (mrR n l kk).2.1 ∧ Below w.heap.size w w' := by
  unfold mrR
  by_cases c : nvB n l = true ∧ 0 ≤ kk ∧ kk < l.length ∧ 3 ≤ n
  · rw [if_pos c]
    have h := specMerge_calls n kk A1 c1 l w hr1 hc1 c.1 c.2.1 c.2.2.1 c.2.2.2
    rwa [nw64 (x := n - 1) (by omega) (by have := nvB_n c.1; omega)] at h
  · rw [if_neg c]
    exact specMerge_none n kk A1 c1 l w hr1 hc1 c
end Go.Proofs.Ytbbpianfoimejaa.MergeW
