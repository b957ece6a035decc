/- The whole shares of an amount, as the program makes them: at what is not valid; and all in one. -/
import Derived.Test.YtfmjhckndlngaaaHeapL
import Derived.Test.YtfmjhckndlngaaaQ2
namespace Go.Proofs.Ytfmjhckndlngaaa.HeapW
open Go.RowKit Go.Proofs.Ytfmjhckndlngaaa.Q Go.Proofs.YtfmjhckndlngaaaW.PrintWords Go.Proofs.YtfmjhckndlngaaaW.PrintLast Go.Proofs.YtfmjhckndlngaaaW.PrintMore
set_option linter.unusedVariables false
set_option linter.unusedSimpArgs false
set_option maxHeartbeats 2000000 in
theorem shareOf_no1 (k : Nat) (A0 : Option Addr) (c0 : Nat) (l0 : List Int) (a1 sum : Int) (w : World) (hr0 : Kd.C (Kd.int .i64) w A0 l0.length l0) (hc0 : l0.length ≤ c0)
    (hl : impl_lengthsSum.f k l0 = some (sum, false)) :
    Calls Try.prog 19 #[.slice A0 l0.length c0, .int .i64 a1] w fun e w' => ∃ v0_ : Value, e = .returned (.tuple #[v0_, .bool false]) ∧ Kd.R (Kd.int .i64) 3 w' w.heap.size (fun _ => True) v0_ ([] : List Int) ∧ Below w.heap.size w w' := by
  have HR0 := Aside0.mk hr0
  have HC0 := Aside0.mk hc0
  clear hr0 hc0
  have HB := Aside0.mk (Below.refl w.heap.size w)
  go_enter Try.func19, Try.ntmps19
  go_wp2_with (first
    | ((go_at_call 33); (with_reducible refine (impl_lengthsSum.calls k _ _ l0 sum _ _ (by repeat (first | exact HR0.out | refine Kd.C_drewN ?_ _ | refine Kd.C_drew ?_)) HC0.out hl).mono ?_); rintro e w1 ⟨rfl, ⟨⟨d1, rfl⟩⟩⟩)
    | ((with_reducible refine gate_dst (N := 28) rfl ?_); refine Kd.R_lit (Kd.int .i64) _ 3 ?hg (N := 28) ?hd (xs := ([] : List Int)) (inner := []) (ok := fun _ => True) (okp := fun _ => True) ?hr ?hp (fun _ hk => hk) trivial (Below.refl _ _) (Nat.le_refl _) (by simp) ?_; (case hd => rfl); (case hg => rfl); (case hr => first | (go_simp; done) | (go_simp; rfl)); (case hp => exact (Reps.none _ _)); intro v192 w31 ho32 hb hg_ hnew_; clear hg_ hnew_; have n0_ := Aside0.mk (Kd.R_lower ho32 (below_size (by repeat (first | (with_reducible first | exact HB.out | apply below_alloc | apply pw_below_drewN | apply below_drew1) | exact HB.out)))); have n1_ := Aside0.mk (below_step (by repeat (first | (with_reducible first | exact HB.out | apply below_alloc | apply pw_below_drewN | apply below_drew1) | exact HB.out)) hb); clear HB; have HO193 := n0_; have HB := n1_; clear n0_ n1_; clear hb ho32))
  go_ret2
  exact ⟨_, by first | rfl | (simp [errW_none, errW_some] <;> rfl) | (simp [*, errW_none, errW_some] <;> rfl), by (with_reducible repeat (first | apply Kd.R_alloc | apply Kd.R_drewN | apply Kd.R_drew)); exact HO193.out, by repeat (first | (with_reducible first | exact HB.out | apply below_alloc | apply pw_below_drewN | apply below_drew1) | exact HB.out)⟩
set_option maxHeartbeats 2000000 in
theorem shareOf_no2 (k : Nat) (A0 : Option Addr) (c0 : Nat) (l0 : List Int) (a1 sum : Int) (w : World) (hr0 : Kd.C (Kd.int .i64) w A0 l0.length l0) (hc0 : l0.length ≤ c0)
    (hl : impl_lengthsSum.f k l0 = some (sum, true)) (hw : impl_within.f a1 10000000 = some false) :
    Calls Try.prog 19 #[.slice A0 l0.length c0, .int .i64 a1] w fun e w' => ∃ v0_ : Value, e = .returned (.tuple #[v0_, .bool false]) ∧ Kd.R (Kd.int .i64) 3 w' w.heap.size (fun _ => True) v0_ ([] : List Int) ∧ Below w.heap.size w w' := by
  have HR0 := Aside0.mk hr0
  have HC0 := Aside0.mk hc0
  clear hr0 hc0
  have HB := Aside0.mk (Below.refl w.heap.size w)
  go_enter Try.func19, Try.ntmps19
  go_wp2_with (first
    | ((go_at_call 33); (with_reducible refine (impl_lengthsSum.calls k _ _ l0 sum _ _ (by repeat (first | exact HR0.out | refine Kd.C_drewN ?_ _ | refine Kd.C_drew ?_)) HC0.out hl).mono ?_); rintro e w1 ⟨rfl, ⟨⟨d1, rfl⟩⟩⟩)
    | ((go_at_call 34); (with_reducible refine (impl_within.calls _ _ _ _ hw).mono ?_); rintro e w1 ⟨rfl, ⟨⟨d2, rfl⟩⟩⟩)
    | ((with_reducible refine gate_dst (N := 28) rfl ?_); refine Kd.R_lit (Kd.int .i64) _ 3 ?hg (N := 28) ?hd (xs := ([] : List Int)) (inner := []) (ok := fun _ => True) (okp := fun _ => True) ?hr ?hp (fun _ hk => hk) trivial (Below.refl _ _) (Nat.le_refl _) (by simp) ?_; (case hd => rfl); (case hg => rfl); (case hr => first | (go_simp; done) | (go_simp; rfl)); (case hp => exact (Reps.none _ _)); intro v192 w31 ho32 hb hg_ hnew_; clear hg_ hnew_; have n0_ := Aside0.mk (Kd.R_lower ho32 (below_size (by repeat (first | (with_reducible first | exact HB.out | apply below_alloc | apply pw_below_drewN | apply below_drew1) | exact HB.out)))); have n1_ := Aside0.mk (below_step (by repeat (first | (with_reducible first | exact HB.out | apply below_alloc | apply pw_below_drewN | apply below_drew1) | exact HB.out)) hb); clear HB; have HO193 := n0_; have HB := n1_; clear n0_ n1_; clear hb ho32))
  go_ret2
  exact ⟨_, by first | rfl | (simp [errW_none, errW_some] <;> rfl) | (simp [*, errW_none, errW_some] <;> rfl), by (with_reducible repeat (first | apply Kd.R_alloc | apply Kd.R_drewN | apply Kd.R_drew)); exact HO193.out, by repeat (first | (with_reducible first | exact HB.out | apply below_alloc | apply pw_below_drewN | apply below_drew1) | exact HB.out)⟩
theorem shareOf_all (A0 : Option Addr) (c0 : Nat) (l0 : List Int) (a1 : Int) (w : World) (hr0 : Kd.C (Kd.int .i64) w A0 l0.length l0) (hc0 : l0.length ≤ c0) :
    Calls Try.prog 19 #[.slice A0 l0.length c0, .int .i64 a1] w fun e w' => ∃ v0_ : Value, e = .returned (.tuple #[v0_, .bool (Pure.shR l0 a1).2]) ∧ Kd.R (Kd.int .i64) 3 w' w.heap.size (fun _ => True) v0_ (Pure.shR l0 a1).1 ∧ Below w.heap.size w w' := by
  have hl := Pure.lengthsSum_eq 100 l0 (by omega)
  have hwi := Pure.swithin_eq a1 10000000 (by omega) (by omega)
  by_cases h : Pure.AV l0 a1
  · have e : Pure.shR l0 a1 = (Pure.pickN (a1 - (Pure.fl l0 a1).sum).toNat (Pure.fl l0 a1) (Pure.rs l0 a1), true) := by unfold Pure.shR; rw [if_pos h]
    rw [if_pos h.1] at hl
    rw [show decide (-10000000 ≤ a1 ∧ a1 ≤ 10000000) = true from decide_eq_true h.2] at hwi
    obtain ⟨f1, f2, f3, f4⟩ := Pure.share_facts h (fun i : Nat => rd (Pure.fl l0 a1) (i : Int)) (fun i : Nat => rd (Pure.rs l0 a1) (i : Int)) rfl rfl _ rfl _ rfl
    have := shareOf_walk 100 A0 c0 l0 a1 l0.sum (fun i : Nat => rd (Pure.fl l0 a1) (i : Int)) (fun i : Nat => rd (Pure.rs l0 a1) (i : Int)) w hr0 hc0 hl hwi ⟨h.1.2.1, h.1.2.2.1⟩ (fun i hi => Pure.share_parts h i hi) _ _ f1 f2 f3
    refine this.mono ?_
    rintro e' w' ⟨v, rfl, ho, hb⟩
    rw [e]
    refine ⟨v, rfl, ?_, hb⟩
    rw [f4] at ho
    refine Kd.R_of_own (α := Int) (by rw [Pure.pickN_length, show (Pure.fl l0 a1).length = l0.length by simp [Pure.fl]]; exact ho) (fun _ _ => trivial)
  · have e : Pure.shR l0 a1 = ([], false) := by unfold Pure.shR; rw [if_neg h]
    rw [e]
    by_cases hL : Pure.LV l0
    · rw [if_pos hL] at hl
      refine shareOf_no2 100 A0 c0 l0 a1 _ w hr0 hc0 hl ?_
      rw [hwi, decide_eq_false (fun q => h ⟨hL, q⟩)]
    · rw [if_neg hL] at hl
      exact shareOf_no1 100 A0 c0 l0 a1 _ w hr0 hc0 hl
end Go.Proofs.Ytfmjhckndlngaaa.HeapW
