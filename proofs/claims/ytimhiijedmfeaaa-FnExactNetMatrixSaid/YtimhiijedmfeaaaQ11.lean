/- Functions of the translation as plain Lean functions, each with a proof that the Go code comes to its answers; written by a program of the prover's (a changed copy of the kit's printer). -/
import Derived.Test.YtimhiijedmfeaaaQ0
import Derived.Test.YtimhiijedmfeaaaQ2
namespace Go.Proofs.Ytimhiijedmfeaaa.Q
open Go.RowKit Go.Proofs.YtimhiijedmfeaaaW.PrintWords Go.Proofs.YtimhiijedmfeaaaW.PrintLast Go.Proofs.YtimhiijedmfeaaaW.PrintMore
attribute [local go_sem] max2_int min2_int max_two min_two max_three min_three max_four min_four   -- for this text's walks alone
set_option linter.unusedVariables false
set_option linter.unusedSimpArgs false

/-! ### laws_markIntSS: function 19 -/
def laws_markIntSS.l0 : Nat → List (List Int) → Int → Int → Option (Int × List (List Int))
  | 0, _, _, _ => none
  | k + 1, x0, x1, x5 => if x5 < (x0.length : Int) then (if 0 ≤ x5 then ((laws_markIntS.f k (rd_L1 x0 x5) x1).bind fun bt => (laws_markIntSS.l0 k (x0.set (x5 : Int).toNat bt.2) bt.1 (wrap64 (x5 + 1)))) else (none)) else (some (x1, x0))
def laws_markIntSS.f (k : Nat) (l0 : List (List Int)) (a1 : Int) : Option (Int × List (List Int)) := laws_markIntSS.l0 k l0 a1 0
theorem laws_markIntSS.mono_l : ∀ k, (∀ y0 y1 y2, LeO (laws_markIntSS.l0 k y0 y1 y2) (laws_markIntSS.l0 (k + 1) y0 y1 y2))
  | 0 => fun _ _ _ r h => by simp [laws_markIntSS.l0] at h
  | k + 1 => by
    have ih0 := laws_markIntSS.mono_l k
    · intro y0 y1 y2
      unfold laws_markIntSS.l0
      repeat' first
      | (with_reducible exact ih0 _ _ _)
      | (with_reducible exact laws_markIntS.mono _ _ _)
      | (with_reducible exact LeO.refl _)
      | (with_reducible exact LeO.none _)
      | (with_reducible refine LeO.ite ?_ ?_)
      | (with_reducible refine LeO.bind ?_ (fun _ => ?_))
      | exact ih0 _ _ _
      | exact laws_markIntS.mono _ _ _
      | exact LeO.none _
      | refine LeO.ite ?_ ?_
      | refine LeO.bind ?_ (fun _ => ?_)
theorem laws_markIntSS.mono : ∀ a0 a1 k, LeO (laws_markIntSS.f k a0 a1) (laws_markIntSS.f (k + 1) a0 a1) := by
  intro a0 a1 k
  exact laws_markIntSS.mono_l k a0 a1 0
set_option maxHeartbeats 8000000 in
set_option maxRecDepth 100000 in
theorem laws_markIntSS.calls (k : Nat) (P0_ : Nat → Prop) (u9000_ : Value) (l0 : List (List Int)) (a1 : Int) (r1 : Int) (r2 : List (List Int)) (w0 w : World) (hB : Below w0.heap.size w0 w) (ho0 : Kd.S (Kd.slice 3 (Kd.int .i64)) 27 w w0.heap.size P0_ u9000_ l0) (h : laws_markIntSS.f k l0 a1 = some (r1, r2)) :
    Calls Try.prog 19 #[u9000_, .int .i64 a1] w fun e w' => e = .returned (.int .i64 r1) ∧ Kd.S (Kd.slice 3 (Kd.int .i64)) 27 w' w0.heap.size (fun k_ => (P0_ k_ ∨ w.heap.size ≤ k_)) u9000_ r2 ∧ Below w0.heap.size w0 w' ∧ Kept w w' (fun k_ => P0_ k_) := by
  have HO0 := Aside0.mk (show Kd.S (Kd.slice 3 (Kd.int .i64)) 27 w w0.heap.size P0_ u9000_ l0 from ho0)
  have HK := Aside0.mk (Kept.refl w (fun k_ => P0_ k_))
  have HW0 := Aside0.mk hB.size
  have HB := Aside0.mk hB
  clear hB ho0
  have H : (laws_markIntSS.l0 k l0 a1 0) = some (r1, r2) := h
  clear h
  have H' := Aside0.mk H
  clear H
  obtain ⟨Ao0, co0, eo0⟩ := Kd.S_slice HO0.out
  subst eo0
  go_enter Try.func19, Try.ntmps19
  go_wp2
  go_loopg [1, 5] k (fun kq v1 v5 w' => ∃ (x0_1 : List (List Int)) (x1_1 : Int) (x5_1 : Int), v1 = .int .i64 x1_1 ∧ v5 = .int .i64 x5_1 ∧ Aside0 (x0_1.length = l0.length) ∧ Aside0 (laws_markIntSS.l0 kq x0_1 x1_1 x5_1 = some (r1, r2)) ∧ Aside0 (kq ≤ k) ∧ Aside0 (Kd.S (Kd.slice 3 (Kd.int .i64)) 27 w' w0.heap.size P0_ (.slice Ao0 l0.length co0) x0_1) ∧ Aside0 (Kept w w' (fun k_ => P0_ k_)) ∧ Aside0 (Below w0.heap.size w0 w'))
  case atStart => exact ⟨(l0), (a1), (0), (by first | rfl | (simp; done) | (simp [*]; done)), (by first | rfl | (simp; done) | (simp [*]; done)), ⟨rfl⟩, H', ⟨Nat.le_refl _⟩, ⟨by (with_reducible repeat (first | apply Kd.S_alloc | apply Kd.S_drewN | apply Kd.S_drew)); exact HO0.out⟩, ⟨by repeat (first | (with_reducible first | exact HK.out | apply Kept.alloc | apply Kept.drewN | apply Kept.drew) | exact HK.out)⟩, ⟨by repeat (first | (with_reducible first | exact HB.out | apply below_alloc | apply pw_below_drewN | apply below_drew1) | exact HB.out)⟩⟩
  case round =>
    clear H'
    try clear c2
    try clear p2
    obtain ⟨x0_1, x1_1, x5_1, rfl, rfl, HL, HA, HK1, HO_0, HK, HB⟩ := hrel
    cases gk with
    | zero => exact absurd HA.out (by simp [laws_markIntSS.l0])
    | succ k1 =>
      have H := HA.out
      clear HA
      simp only [laws_markIntSS.l0] at H
      by_cases c3 : x5_1 < (x0_1.length : Int)
      · rw [if_pos c3] at H
        have c3L : x5_1 < (l0.length : Int) := by rw [← HL.out]; exact c3
        have c3b0 : decide (x5_1 < (l0.length : Int)) = true := decide_eq_true c3L
        clear c3L
        by_cases c4 : 0 ≤ x5_1
        · rw [if_pos c4] at H
          have c4b0 : decide (0 ≤ x5_1) = true := decide_eq_true c4
          replace H := Option.bind_eq_some_iff.mp H
          obtain ⟨⟨t238, t239⟩, A50, H⟩ := H
          replace H : (laws_markIntSS.l0 k1 (x0_1.set (x5_1 : Int).toNat t239) t238 (wrap64 (x5_1 + 1))) = some (r1, r2) := H
          have A5 := Aside0.mk A50
          clear A50
          have H' := Aside0.mk H
          clear H
          obtain ⟨go5, co5, eo5, gb5, gl5, cl5, HG5⟩ := Kd.S_form HO_0.out (by omega)
          rw [HL.out] at eo5
          injection eo5 with ea_ en_ ec_
          subst ea_
          subst ec_
          have p5 : 0 ≤ (x5_1 : Int) := c4
          have q5 : (x5_1 : Int) < ((l0.length : Nat) : Int) := by rw [← HL.out]; exact c3
          obtain ⟨oki, ce5, hcl5, hM5, hcc5, hfr5, hoki5, hH5⟩ := Kd.S_elem HO_0.out [] (x5_1 : Int) p5 q5
          obtain ⟨ve5, rfl, ge5⟩ := hM5
          have hx5_0 := hcc5 0 _ rfl
          have hf5_0 := hfr5 0
          (try simp only [show ((Kd.slice 3 (Kd.int .i64))).sz = 1 from rfl, Nat.mul_one, Nat.add_zero] at hx5_0)
          (try simp only [show ((Kd.slice 3 (Kd.int .i64))).sz = 1 from rfl, Nat.mul_one, Nat.add_zero] at hf5_0)
          have GE5 := Aside0.mk (show Kd.R (Kd.int .i64) 3 wr w0.heap.size oki ve5 (rd_L1 x0_1 x5_1) from ge5)
          have HH5 := Aside0.mk hH5
          have HOK5 := Aside0.mk hoki5
          clear hcl5 hcc5 hfr5 hoki5 hH5 gb5 gl5 cl5 HG5 ge5
          have p5b := eq_true p5
          have q5b := eq_true q5
          go_wp2_with (first | ((with_reducible refine gate_callee (f := 20) rfl ?_); refine goesL_ (some 17) rfl rfl Try.func20 (by kernel_rfl) rfl #[ve5, .int .i64 x1_1] rfl (by (try simp only [List.map_toArray, List.map_cons, List.map_nil]); first | done | rfl) ?_; refine (laws_markIntS.calls k1 oki ve5 (rd_L1 x0_1 x5_1) x1_1 t238 t239 w0 _ HB.out GE5.out A5.out).mono ?_; rintro e w8 ⟨rfl, hr, hb, hk⟩; refine ⟨_, rfl, ?_⟩; have n0_ := Aside0.mk (show Kd.S (Kd.slice 3 (Kd.int .i64)) 27 w8 w0.heap.size P0_ (.slice (some ⟨go5, 0, none⟩) l0.length co0) (x0_1.set (x5_1 : Int).toNat t239) from Kd.H_back (Kd.H_kept HH5.out hk (fun _ _ hn => hn)) (okp := oki) ⟨ve5, rfl, Kd.R_reok rfl hr (fun k_ hk_ => GE5.out.1 k_ hk_)⟩ (fun _ h_ => h_)); have n1_ := Aside0.mk (show Below w0.heap.size w0 w8 from hb); have n2_ := Aside0.mk (show Kept w w8 (fun k_ => P0_ k_) from Kept.then_ HK.out hk (fun k_ hk_ => .inl (HOK5.out k_ hk_).1)); clear HO_0 HB HK HH5 GE5 hr hb hk; have HO_0 := n0_; have HB := n1_; have HK := n2_; clear n0_ n1_ n2_))
          go_roundg k1
          case measure => have := HK1.out; omega
          case rel => exact ⟨(x0_1.set (x5_1 : Int).toNat t239), t238, (wrap64 (x5_1 + 1)), (by first | rfl | (simp; done) | (simp [*]; done)), (by first | rfl | (simp; done) | (simp [*]; done)), ⟨by rw [List.length_set]; exact HL.out⟩, H', ⟨by have := HK1.out; omega⟩, ⟨by (with_reducible repeat (first | apply Kd.S_alloc | apply Kd.S_drewN | apply Kd.S_drew)); exact HO_0.out⟩, ⟨by repeat (first | (with_reducible first | exact HK.out | apply Kept.alloc | apply Kept.drewN | apply Kept.drew) | exact HK.out)⟩, ⟨by repeat (first | (with_reducible first | exact HB.out | apply below_alloc | apply pw_below_drewN | apply below_drew1) | exact HB.out)⟩⟩
        · rw [if_neg c4] at H
          exact absurd H (by simp)
      · rw [if_neg c3] at H
        have c3L : ¬ x5_1 < (l0.length : Int) := by rw [← HL.out]; exact c3
        have c3b0 : decide (x5_1 < (l0.length : Int)) = false := decide_eq_false c3L
        clear c3 c3L
        simp only [Option.some.injEq, Prod.mk.injEq] at H
        obtain ⟨rfl, rfl⟩ := H
        go_wp2
        go_ret
        exact ⟨by first | rfl | (simp [errW_none, errW_some] <;> rfl) | (simp [*, errW_none, errW_some] <;> rfl), by (with_reducible repeat (first | apply Kd.S_alloc | apply Kd.S_drewN | apply Kd.S_drew)); exact Kd.S_mono HO_0.out (fun _ h_ => .inl h_), by repeat (first | (with_reducible first | exact HB.out | apply below_alloc | apply pw_below_drewN | apply below_drew1) | exact HB.out), by repeat (first | (with_reducible first | exact HK.out | apply Kept.alloc | apply Kept.drewN | apply Kept.drew) | exact HK.out)⟩


end Go.Proofs.Ytimhiijedmfeaaa.Q
