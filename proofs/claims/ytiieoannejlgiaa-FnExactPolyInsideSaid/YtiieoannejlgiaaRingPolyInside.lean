/- impl.PolyInside over lists of corners. -/
import Derived.Test.YtiieoannejlgiaaDrawn
import Derived.Test.YtiieoannejlgiaaRingPolyEdge
import Derived.Test.YtiieoannejlgiaaQ5
namespace Go.Proofs.Ytiieoannejlgiaa.Ring
open Go.RowKit Go.Shelf Go.Proofs.Ytiieoannejlgiaa.Q Go.Proofs.Ytiieoannejlgiaa.Drawn Go.Proofs.YtiieoannejlgiaaW.PrintWords Go.Proofs.YtiieoannejlgiaaW.PrintLast Go.Proofs.YtiieoannejlgiaaW.PrintMore
set_option linter.unusedVariables false
set_option linter.unusedSimpArgs false
attribute [local go_sem] Oper.semAt_some

def absW (x : Int) : Int := if x < 0 then wrap64 (-x) else x
theorem absW_f (x : Int) : impl_absInt.f x = some (absW x) := by unfold impl_absInt.f absW; split <;> rfl
def insideR (l0 : List Pt) : Int := wrap64 ((wrap64 (wrap64 (absW (areaS l0 l0.length) - edgeS l0 l0.length) + 2)).tdiv 2)
set_option maxRecDepth 100000 in
set_option maxHeartbeats 4000000 in
theorem polyInside_no (A0 : Option Addr) (c0 : Nat) (l0 : List Pt) (w : World) (hr0 : Kd.C k37 w A0 l0.length l0) (hc0 : l0.length ≤ c0) (h : okS l0 = false) :
    Calls Try.prog 42 #[.slice A0 l0.length c0] w fun e w' => e = .returned (.int .i64 (-1)) ∧ Below w.heap.size w w' := by
  have HR0 := Aside0.mk hr0
  have HC0 := Aside0.mk hc0
  have HX := Aside0.mk h
  clear hr0 hc0 h
  go_enter Try.func42, Try.ntmps42
  go_wp2_with (go_at_call 54; refine (simple_isnt A0 c0 l0 _ ?s1 HC0.out HX.out).mono ?_; (case s1 => exact Kd.C_below HR0.out (by first | exact Below.refl _ _ | exact (Below.refl _ _).alloc (Nat.le_refl _) _)); rintro e w1 ⟨rfl, hb⟩; have HB := Aside0.mk ((Below.refl w.heap.size w).trans hb); clear hb)
  go_ret
  exact ⟨rfl, HB.out.alloc HB.out.size _⟩

set_option maxRecDepth 100000 in
set_option maxHeartbeats 4000000 in
theorem polyInside_yes (A0 : Option Addr) (c0 : Nat) (l0 : List Pt) (w : World) (hr0 : Kd.C k37 w A0 l0.length l0) (hc0 : l0.length ≤ c0) (h : okS l0 = true) :
    Calls Try.prog 42 #[.slice A0 l0.length c0] w fun e w' => e = .returned (.int .i64 (insideR l0)) ∧ Below w.heap.size w w' := by
  have HR0 := Aside0.mk hr0
  have HC0 := Aside0.mk hc0
  have HX := Aside0.mk h
  clear hr0 hc0 h
  refine (callsIn_wide (n := 0)).1 (callsIn_of_wp Try.func42 rfl trivial ?_ rfl)
  simp only [Try.ntmps42, List.size_toArray, List.length_cons, List.length_nil, Nat.reduceAdd, Nat.reduceSub, Array.replicate_succ, Array.replicate_zero, List.push_toArray, List.append_toArray, List.nil_append, List.cons_append]
  have HF := wide_plain Try.prog
  gi_wp2_with ((first | refine ⟨trivial, rfl, ?_⟩ | refine ⟨rfl, ?_⟩ | skip); gi_at_call 54; refine (callsIn_wide.2 (simple_yes A0 c0 l0 _ HR0.out HC0.out HX.out)).mono ?_; rintro e w1 ⟨bs, rfl, hR, hlo0, hb⟩; have HR := Aside0.mk hR; have HB := Aside0.mk ((Below.refl w.heap.size w).trans hb); clear hb hR hlo0)
  have q0 : (w1.alloc (.cells #[.pointer (some ⟨bs 0, 0, none⟩), .int .i64 l0.length] 54)).cell? ⟨w1.heap.size, 0, none⟩ = some (.pointer (some ⟨bs 0, 0, none⟩)) := by simp [go_sem]
  have q1 : (w1.alloc (.cells #[.pointer (some ⟨bs 0, 0, none⟩), .int .i64 l0.length] 54)).cell? ⟨w1.heap.size, 1, none⟩ = some (.int .i64 l0.length) := by simp [go_sem]
  have hs2 : (w1.alloc (.cells #[.pointer (some ⟨bs 0, 0, none⟩), .int .i64 l0.length] 54)).heap.size = w1.heap.size + 1 := by simp
  have HR2 := Aside0.mk (HR.out.below ((Below.refl _ _).alloc (Nat.le_refl _) (.cells #[.pointer (some ⟨bs 0, 0, none⟩), .int .i64 l0.length] 54)))
  have HB2 := Aside0.mk (HB.out.alloc HB.out.size (.cells #[.pointer (some ⟨bs 0, 0, none⟩), .int .i64 l0.length] 54))
  generalize w1.alloc (.cells #[.pointer (some ⟨bs 0, 0, none⟩), .int .i64 l0.length] 54) = W2 at *
  obtain ⟨VS, hVS⟩ : ∃ VS : List (Option Tmp × Value), [(some 12, .agg #[.pointer (some ⟨bs 0, 0, none⟩), .int .i64 l0.length]), (some 13, .int .i64 (areaS l0 l0.length)), (some 14, .int .i64 (absW (areaS l0 l0.length))), (some 15, .agg #[.pointer (some ⟨bs 0, 0, none⟩), .int .i64 l0.length]), (some 16, .int .i64 (edgeS l0 l0.length)), (some 17, .int .i64 (wrap64 (absW (areaS l0 l0.length) - edgeS l0 l0.length))), (some 18, .int .i64 (wrap64 (wrap64 (absW (areaS l0 l0.length) - edgeS l0 l0.length) + 2))), (some 19, .int .i64 (wrap64 ((wrap64 (wrap64 (absW (areaS l0 l0.length) - edgeS l0 l0.length) + 2)).tdiv 2))), (some 2, .int .i64 (wrap64 ((wrap64 (wrap64 (absW (areaS l0 l0.length) - edgeS l0 l0.length) + 2)).tdiv 2)))] = VS := ⟨_, rfl⟩
  have HN : (VS.filterMap (·.1)).Nodup := by rw [← hVS]; exact (show List.Nodup [(12 : Tmp), (13 : Tmp), (14 : Tmp), (15 : Tmp), (16 : Tmp), (17 : Tmp), (18 : Tmp), (19 : Tmp), (2 : Tmp)] by decide)
  refine act_name fun A0 hA0 => ?_
  have E3 : ∀ L : List Bool, (fill VS L A0).tmps[3]?.getD undef = .pointer (some ⟨w1.heap.size, 0, none⟩) := fun L => fill_old _ _ _ (by rw [← hVS]; exact (show (3 : Tmp) ∉ [(12 : Tmp), (13 : Tmp), (14 : Tmp), (15 : Tmp), (16 : Tmp), (17 : Tmp), (18 : Tmp), (19 : Tmp), (2 : Tmp)] by decide)) (by rw [← hA0]; rfl)
  have E12 : ∀ L : List Bool, L[0]? = some true → (fill VS L A0).tmps[12]?.getD undef = .agg #[.pointer (some ⟨bs 0, 0, none⟩), .int .i64 l0.length] := fun L h => fill_at HN (j := 0) (by rw [← hVS]; rfl) h (by rw [← hA0]; simp)
  have E13 : ∀ L : List Bool, L[1]? = some true → (fill VS L A0).tmps[13]?.getD undef = .int .i64 (areaS l0 l0.length) := fun L h => fill_at HN (j := 1) (by rw [← hVS]; rfl) h (by rw [← hA0]; simp)
  have E14 : ∀ L : List Bool, L[2]? = some true → (fill VS L A0).tmps[14]?.getD undef = .int .i64 (absW (areaS l0 l0.length)) := fun L h => fill_at HN (j := 2) (by rw [← hVS]; rfl) h (by rw [← hA0]; simp)
  have E15 : ∀ L : List Bool, L[3]? = some true → (fill VS L A0).tmps[15]?.getD undef = .agg #[.pointer (some ⟨bs 0, 0, none⟩), .int .i64 l0.length] := fun L h => fill_at HN (j := 3) (by rw [← hVS]; rfl) h (by rw [← hA0]; simp)
  have E16 : ∀ L : List Bool, L[4]? = some true → (fill VS L A0).tmps[16]?.getD undef = .int .i64 (edgeS l0 l0.length) := fun L h => fill_at HN (j := 4) (by rw [← hVS]; rfl) h (by rw [← hA0]; simp)
  have E17 : ∀ L : List Bool, L[5]? = some true → (fill VS L A0).tmps[17]?.getD undef = .int .i64 (wrap64 (absW (areaS l0 l0.length) - edgeS l0 l0.length)) := fun L h => fill_at HN (j := 5) (by rw [← hVS]; rfl) h (by rw [← hA0]; simp)
  have E18 : ∀ L : List Bool, L[6]? = some true → (fill VS L A0).tmps[18]?.getD undef = .int .i64 (wrap64 (wrap64 (absW (areaS l0 l0.length) - edgeS l0 l0.length) + 2)) := fun L h => fill_at HN (j := 6) (by rw [← hVS]; rfl) h (by rw [← hA0]; simp)
  have E19 : ∀ L : List Bool, L[7]? = some true → (fill VS L A0).tmps[19]?.getD undef = .int .i64 (wrap64 ((wrap64 (wrap64 (absW (areaS l0 l0.length) - edgeS l0 l0.length) + 2)).tdiv 2)) := fun L h => fill_at HN (j := 7) (by rw [← hVS]; rfl) h (by rw [← hA0]; simp)
  refine drawn_same (by kernel_rfl) (early_spec (by kernel_rfl)) VS (by rw [← hVS]; rfl) HN (fun w' => Below W2.heap.size W2 w') ((Below.refl _ _).drew) ?_ ?_
  · intro i o v L w' ho hv hpre hS K hK
    have hii : i = 0 ∨ i = 1 ∨ i = 2 ∨ i = 3 ∨ i = 4 ∨ i = 5 ∨ i = 6 ∨ i = 7 ∨ i = 8 := by have hq := (Array.getElem?_eq_some_iff.1 ho).1; simp at hq; omega
    rcases hii with rfl | rfl | rfl | rfl | rfl | rfl | rfl | rfl | rfl
    · obtain rfl := Option.some.inj ho
      obtain rfl : .agg #[.pointer (some ⟨bs 0, 0, none⟩), .int .i64 l0.length] = v := (Prod.mk.inj (Option.some.inj (show (some (some 12, .agg #[.pointer (some ⟨bs 0, 0, none⟩), .int .i64 l0.length]) : Option (Option Tmp × Value)) = _ from by rw [← hVS] at hv; exact hv))).2
      have e3 := E3 L
      have c1 := (hS.cell (p := ⟨w1.heap.size, 0, none⟩) (by dsimp only; omega)).trans q0
      have c2 := (hS.cell (p := ⟨w1.heap.size, 1, none⟩) (by dsimp only; omega)).trans q1
      refine st_val HF rfl (by simp) rfl (w' := w') ?_ (hK w' hS)
      generalize fill VS L A0 = A at e3 ⊢
      simp [execOp, go_sem, i64_w, e3, c1, c2]
    · obtain rfl := Option.some.inj ho
      obtain rfl : .int .i64 (areaS l0 l0.length) = v := (Prod.mk.inj (Option.some.inj (show (some (some 13, .int .i64 (areaS l0 l0.length)) : Option (Option Tmp × Value)) = _ from by rw [← hVS] at hv; exact hv))).2
      have e12 := E12 L (hpre ⟨0, .data⟩ (by simp) rfl)
      refine st_call HF rfl (by simp) rfl (w := w') (f := 51) (args := #[.agg #[.pointer (some ⟨bs 0, 0, none⟩), .int .i64 l0.length]]) (v := .int .i64 (areaS l0 l0.length)) ?_ ?_
      · generalize fill VS L A0 = A at e12 ⊢
        simp [execOp, resolve, go_sem, e12]
      · refine (area_calls w1.heap.size bs l0 w' (HR2.out.below (hS.mono (by omega))) (by have := hS.size; omega)).mono ?_; rintro e w2 ⟨rfl, hb2⟩; exact ⟨rfl, hK w2 (hS.trans (hb2.mono hS.size))⟩
    · obtain rfl := Option.some.inj ho
      obtain rfl : .int .i64 (absW (areaS l0 l0.length)) = v := (Prod.mk.inj (Option.some.inj (show (some (some 14, .int .i64 (absW (areaS l0 l0.length))) : Option (Option Tmp × Value)) = _ from by rw [← hVS] at hv; exact hv))).2
      have e13 := E13 L (hpre ⟨1, .data⟩ (by simp) rfl)
      refine st_call HF rfl (by simp) rfl (w := w') (f := 70) (args := #[.int .i64 (areaS l0 l0.length)]) (v := .int .i64 (absW (areaS l0 l0.length))) ?_ ?_
      · generalize fill VS L A0 = A at e13 ⊢
        simp [execOp, resolve, go_sem, e13]
      · refine (impl_absInt.calls _ _ w' (absW_f _)).mono ?_; rintro e w2 ⟨rfl, hb2⟩; obtain ⟨nd, rfl⟩ := hb2; exact ⟨rfl, hK _ (pw_below_drewN hS _)⟩
    · obtain rfl := Option.some.inj ho
      obtain rfl : .agg #[.pointer (some ⟨bs 0, 0, none⟩), .int .i64 l0.length] = v := (Prod.mk.inj (Option.some.inj (show (some (some 15, .agg #[.pointer (some ⟨bs 0, 0, none⟩), .int .i64 l0.length]) : Option (Option Tmp × Value)) = _ from by rw [← hVS] at hv; exact hv))).2
      have e3 := E3 L
      have c1 := (hS.cell (p := ⟨w1.heap.size, 0, none⟩) (by dsimp only; omega)).trans q0
      have c2 := (hS.cell (p := ⟨w1.heap.size, 1, none⟩) (by dsimp only; omega)).trans q1
      refine st_val HF rfl (by simp) rfl (w' := w') ?_ (hK w' hS)
      generalize fill VS L A0 = A at e3 ⊢
      simp [execOp, go_sem, i64_w, e3, c1, c2]
    · obtain rfl := Option.some.inj ho
      obtain rfl : .int .i64 (edgeS l0 l0.length) = v := (Prod.mk.inj (Option.some.inj (show (some (some 16, .int .i64 (edgeS l0 l0.length)) : Option (Option Tmp × Value)) = _ from by rw [← hVS] at hv; exact hv))).2
      have e15 := E15 L (hpre ⟨3, .data⟩ (by simp) rfl)
      refine st_call HF rfl (by simp) rfl (w := w') (f := 68) (args := #[.agg #[.pointer (some ⟨bs 0, 0, none⟩), .int .i64 l0.length]]) (v := .int .i64 (edgeS l0 l0.length)) ?_ ?_
      · generalize fill VS L A0 = A at e15 ⊢
        simp [execOp, resolve, go_sem, e15]
      · refine (edge_calls w1.heap.size bs l0 w' (HR2.out.below (hS.mono (by omega))) (by have := hS.size; omega)).mono ?_; rintro e w2 ⟨rfl, hb2⟩; exact ⟨rfl, hK w2 (hS.trans (hb2.mono hS.size))⟩
    · obtain rfl := Option.some.inj ho
      obtain rfl : .int .i64 (wrap64 (absW (areaS l0 l0.length) - edgeS l0 l0.length)) = v := (Prod.mk.inj (Option.some.inj (show (some (some 17, .int .i64 (wrap64 (absW (areaS l0 l0.length) - edgeS l0 l0.length))) : Option (Option Tmp × Value)) = _ from by rw [← hVS] at hv; exact hv))).2
      have e14 := E14 L (hpre ⟨2, .data⟩ (by simp) rfl)
      have e16 := E16 L (hpre ⟨4, .data⟩ (by simp) rfl)
      refine st_val HF rfl (by simp) rfl (w' := w') ?_ (hK w' hS)
      generalize fill VS L A0 = A at e14 e16 ⊢
      simp [execOp, go_sem, i64_w, e14, e16]
    · obtain rfl := Option.some.inj ho
      obtain rfl : .int .i64 (wrap64 (wrap64 (absW (areaS l0 l0.length) - edgeS l0 l0.length) + 2)) = v := (Prod.mk.inj (Option.some.inj (show (some (some 18, .int .i64 (wrap64 (wrap64 (absW (areaS l0 l0.length) - edgeS l0 l0.length) + 2))) : Option (Option Tmp × Value)) = _ from by rw [← hVS] at hv; exact hv))).2
      have e17 := E17 L (hpre ⟨5, .data⟩ (by simp) rfl)
      refine st_val HF rfl (by simp) rfl (w' := w') ?_ (hK w' hS)
      generalize fill VS L A0 = A at e17 ⊢
      simp [execOp, go_sem, i64_w, e17]
    · obtain rfl := Option.some.inj ho
      obtain rfl : .int .i64 (wrap64 ((wrap64 (wrap64 (absW (areaS l0 l0.length) - edgeS l0 l0.length) + 2)).tdiv 2)) = v := (Prod.mk.inj (Option.some.inj (show (some (some 19, .int .i64 (wrap64 ((wrap64 (wrap64 (absW (areaS l0 l0.length) - edgeS l0 l0.length) + 2)).tdiv 2))) : Option (Option Tmp × Value)) = _ from by rw [← hVS] at hv; exact hv))).2
      have e18 := E18 L (hpre ⟨6, .data⟩ (by simp) rfl)
      refine st_val HF rfl (by simp) rfl (w' := w') ?_ (hK w' hS)
      generalize fill VS L A0 = A at e18 ⊢
      simp [execOp, go_sem, i64_w, e18]
    · obtain rfl := Option.some.inj ho
      obtain rfl : .int .i64 (wrap64 ((wrap64 (wrap64 (absW (areaS l0 l0.length) - edgeS l0 l0.length) + 2)).tdiv 2)) = v := (Prod.mk.inj (Option.some.inj (show (some (some 2, .int .i64 (wrap64 ((wrap64 (wrap64 (absW (areaS l0 l0.length) - edgeS l0 l0.length) + 2)).tdiv 2))) : Option (Option Tmp × Value)) = _ from by rw [← hVS] at hv; exact hv))).2
      have e19 := E19 L (hpre ⟨7, .data⟩ (by simp) rfl)
      refine st_val HF rfl (by simp) rfl (w' := w') ?_ (hK w' hS)
      generalize fill VS L A0 = A at e19 ⊢
      simp [execOp, go_sem, i64_w, e19]
  · intro w' hS'
    rw [← hVS, ← hA0]
    simp only [List.size_toArray, List.length_cons, List.length_nil, Nat.reduceAdd, List.replicate, fill, if_true, Act.put, List.setIfInBounds_toArray, List.set_cons_succ, List.set_cons_zero]
    clear HN E3 E12 E13 E14 E15 E16 E17 E18 E19 hVS hA0
    have HS := Aside0.mk hS'
    clear hS'
    gi_wp2
    go_ret
    exact ⟨rfl, HB2.out.trans (HS.out.mono (by have := HB.out.size; omega))⟩

end Go.Proofs.Ytiieoannejlgiaa.Ring
