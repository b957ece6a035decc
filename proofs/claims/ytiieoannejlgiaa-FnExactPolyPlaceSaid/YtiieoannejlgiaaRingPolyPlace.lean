/- impl.PolyPlace over lists of corners. -/
import Derived.Test.YtiieoannejlgiaaDrawn
import Derived.Test.YtiieoannejlgiaaRingPolyValid
import Derived.Test.YtiieoannejlgiaaRingPlace
import Derived.Test.YtiieoannejlgiaaQ3
namespace Go.Proofs.Ytiieoannejlgiaa.Ring
open Go.RowKit Go.Shelf Go.Proofs.Ytiieoannejlgiaa.Q Go.Proofs.Ytiieoannejlgiaa.Drawn Go.Proofs.YtiieoannejlgiaaW.PrintWords Go.Proofs.YtiieoannejlgiaaW.PrintLast Go.Proofs.YtiieoannejlgiaaW.PrintMore
set_option linter.unusedVariables false
set_option linter.unusedSimpArgs false
attribute [local go_sem] Oper.semAt_some
set_option maxRecDepth 100000 in
set_option maxHeartbeats 4000000 in
theorem polyPlace_no (A0 : Option Addr) (c0 : Nat) (l0 : List Pt) (p : Pt) (w : World) (hr0 : Kd.C k37 w A0 l0.length l0) (hc0 : l0.length ≤ c0) (h : okS l0 = false) :
    Calls Try.prog 32 #[.slice A0 l0.length c0, .agg #[.int .i64 p.f0, .int .i64 p.f1]] w fun e w' => e = .returned (.tuple #[.int .i64 0, .bool false]) ∧ Below w.heap.size w w' := by
  have HR0 := Aside0.mk hr0
  have HC0 := Aside0.mk hc0
  have HX := Aside0.mk h
  clear hr0 hc0 h
  go_enter Try.func32, Try.ntmps32
  go_wp2_with (go_at_call 54; refine (simple_isnt A0 c0 l0 _ ?s1 HC0.out HX.out).mono ?_; (case s1 => exact Kd.C_below HR0.out (by first | exact Below.refl _ _ | exact (Below.refl _ _).alloc (Nat.le_refl _) _)); rintro e w1 ⟨rfl, hb⟩; have HB := Aside0.mk (((Below.refl w.heap.size w).alloc (Nat.le_refl _) (.cells #[.int .i64 p.f0, .int .i64 p.f1] 37)).trans (hb.mono (by simp))); clear hb)
  go_ret2
  exact ⟨rfl, HB.out.alloc HB.out.size _⟩

set_option maxRecDepth 100000 in
set_option maxHeartbeats 4000000 in
theorem polyPlace_far (A0 : Option Addr) (c0 : Nat) (l0 : List Pt) (p : Pt) (w : World) (hr0 : Kd.C k37 w A0 l0.length l0) (hc0 : l0.length ≤ c0) (h : okS l0 = true) (hp : Pure.ptB p = false) :
    Calls Try.prog 32 #[.slice A0 l0.length c0, .agg #[.int .i64 p.f0, .int .i64 p.f1]] w fun e w' => e = .returned (.tuple #[.int .i64 0, .bool false]) ∧ Below w.heap.size w w' := by
  have HR0 := Aside0.mk hr0
  have HC0 := Aside0.mk hc0
  have HV := Aside0.mk ((Pure.impl_PtValid_eq p).trans (by rw [hp]))
  clear hp
  have HX := Aside0.mk h
  clear hr0 hc0 h
  go_enter Try.func32, Try.ntmps32
  go_wp2_with (first | (go_at_call 54; refine (simple_yes A0 c0 l0 _ ?s1 HC0.out HX.out).mono ?_; (case s1 => exact Kd.C_below HR0.out (by first | exact Below.refl _ _ | exact (Below.refl _ _).alloc (Nat.le_refl _) _)); rintro e w1 ⟨bs, rfl, hR, hlo0, hb⟩; have HR := Aside0.mk hR; have HB := Aside0.mk (((Below.refl w.heap.size w).alloc (Nat.le_refl _) (.cells #[.int .i64 p.f0, .int .i64 p.f1] 37)).trans (hb.mono (by simp))); have hz : w.heap.size < w1.heap.size := (by have := hb.size; simp at this; omega); have hz1 : ¬ w1.heap.size = w.heap.size := (by omega); have hz2 : ¬ w.heap.size = w1.heap.size := (by omega); have hb' := Below.mono hb (B' := w.heap.size + 1) (by simp); have z0 := (at_new hb' 0).1; have z1 := (at_new hb' 1).1; simp at z0 z1; clear hb'; clear hb hR hlo0) | (go_at_call 63; refine (impl_PointValid.calls _ _ false _ HV.out).mono ?_; rintro e w2 ⟨rfl, hb2⟩; have HB2 := Aside0.mk (HB.out.alloc HB.out.size (.cells #[.pointer (some ⟨bs 0, 0, none⟩), .int .i64 l0.length] 54) |>.trans (hb2.mono (by have := HB.out.size; simp; omega))); clear hb2))
  go_ret2
  exact ⟨rfl, HB2.out⟩

set_option maxRecDepth 100000 in
set_option maxHeartbeats 4000000 in
theorem polyPlace_yes (A0 : Option Addr) (c0 : Nat) (l0 : List Pt) (p : Pt) (w : World) (hr0 : Kd.C k37 w A0 l0.length l0) (hc0 : l0.length ≤ c0) (h : okS l0 = true) (hp : Pure.ptB p = true) :
    Calls Try.prog 32 #[.slice A0 l0.length c0, .agg #[.int .i64 p.f0, .int .i64 p.f1]] w fun e w' => e = .returned (.tuple #[.int .i64 (placeR l0 p), .bool true]) ∧ Below w.heap.size w w' := by
  have HR0 := Aside0.mk hr0
  have HC0 := Aside0.mk hc0
  have HV := Aside0.mk ((Pure.impl_PtValid_eq p).trans (by rw [hp]))
  clear hp
  have HX := Aside0.mk h
  clear hr0 hc0 h
  go_enter Try.func32, Try.ntmps32
  go_wp2_with (first | (go_at_call 54; refine (simple_yes A0 c0 l0 _ ?s1 HC0.out HX.out).mono ?_; (case s1 => exact Kd.C_below HR0.out (by first | exact Below.refl _ _ | exact (Below.refl _ _).alloc (Nat.le_refl _) _)); rintro e w1 ⟨bs, rfl, hR, hlo0, hb⟩; have HR := Aside0.mk hR; have HB := Aside0.mk (((Below.refl w.heap.size w).alloc (Nat.le_refl _) (.cells #[.int .i64 p.f0, .int .i64 p.f1] 37)).trans (hb.mono (by simp))); have hz : w.heap.size < w1.heap.size := (by have := hb.size; simp at this; omega); have hz1 : ¬ w1.heap.size = w.heap.size := (by omega); have hz2 : ¬ w.heap.size = w1.heap.size := (by omega); have hb' := Below.mono hb (B' := w.heap.size + 1) (by simp); have z0 := (at_new hb' 0).1; have z1 := (at_new hb' 1).1; simp at z0 z1; clear hb'; clear hb hR hlo0) | (go_at_call 63; refine (impl_PointValid.calls _ _ true _ HV.out).mono ?_; rintro e w2 ⟨rfl, hb2⟩; have hs2 : w1.heap.size + 1 ≤ w2.heap.size := (by have := hb2.size; simp at this; omega); have HB2 := Aside0.mk (HB.out.alloc HB.out.size (.cells #[.pointer (some ⟨bs 0, 0, none⟩), .int .i64 l0.length] 54) |>.trans (hb2.mono (by have := HB.out.size; simp; omega))); have hb1 : Below (w1.heap.size + 1) (w1.alloc (.cells #[.pointer (some ⟨bs 0, 0, none⟩), .int .i64 l0.length] 54)) w2 := hb2.mono (by simp); have v0 := (at_new hb1 0).1; have v1 := (at_new hb1 1).1; simp at v0 v1; have hb3 := ((Below.refl w1.heap.size w1).alloc (Nat.le_refl _) (.cells #[.pointer (some ⟨bs 0, 0, none⟩), .int .i64 l0.length] 54)).trans (hb1.mono (by omega)); have t0 := (hb3.cell (p := ⟨w.heap.size, 0, none⟩) hz).trans z0; have t1 := (hb3.cell (p := ⟨w.heap.size, 1, none⟩) hz).trans z1; have HR2 := Aside0.mk ((HR.out.below hb3).mono (show w1.heap.size ≤ w2.heap.size by omega)); clear hb2 hb1 hb3 z0 z1) | (go_at_call 64; refine (place_calls w2.heap.size bs l0 p w2 HR2.out (Nat.le_refl _)).mono ?_; rintro e w3 ⟨rfl, hb4⟩; have HB3 := Aside0.mk (HB2.out.trans (hb4.mono HB2.out.size)); clear hb4))
  go_ret2
  exact ⟨rfl, HB3.out⟩


end Go.Proofs.Ytiieoannejlgiaa.Ring
