/- What begins with the corners of a list: simpleOf, parcelOf. -/
import Derived.Test.YtiieoannejlgiaaRingOutline
import Derived.Test.YtiieoannejlgiaaRingSimple
import Derived.Test.YtiieoannejlgiaaRingArea
namespace Go.Proofs.Ytiieoannejlgiaa.Ring
open Go.RowKit Go.Shelf Go.Proofs.Ytiieoannejlgiaa.Q Go.Proofs.Ytiieoannejlgiaa.Drawn Go.Proofs.YtiieoannejlgiaaW.PrintWords Go.Proofs.YtiieoannejlgiaaW.PrintLast Go.Proofs.YtiieoannejlgiaaW.PrintMore
set_option linter.unusedVariables false
set_option linter.unusedSimpArgs false
attribute [local go_sem] Oper.semAt_some

def okS (l : List Pt) : Bool := Pure.cvB l && simpleB l
def okP (l : List Pt) : Bool := okS l && decide (0 < areaS l l.length)
theorem simple_b (top : Nat) (bs : Nat → Nat) (l : List Pt) (w : World) (hR : Ring w top bs l) (htop : top ≤ w.heap.size) (b : Bool) (h : simpleB l = b) :
    Calls Try.prog 77 #[.agg #[.pointer (some ⟨bs 0, 0, none⟩), .int .i64 l.length]] w fun e w' => e = .returned (.bool b) ∧ Below w.heap.size w w' := by
  rw [← h]; exact simple_calls top bs l w hR htop
set_option maxRecDepth 100000 in
set_option maxHeartbeats 4000000 in
theorem simple_isnt_a (A0 : Option Addr) (c0 : Nat) (l0 : List Pt) (w : World) (hr0 : Kd.C k37 w A0 l0.length l0) (hc0 : l0.length ≤ c0) (h : Pure.cvB l0 = false) :
    Calls Try.prog 54 #[.slice A0 l0.length c0] w (NoRing w) := by
  have HR0 := Aside0.mk hr0
  have HC0 := Aside0.mk hc0
  have HX := Aside0.mk h
  clear hr0 hc0 h
  go_enter Try.func54, Try.ntmps54
  go_wp2_with (go_at_call 50; refine (outline_isnt A0 c0 l0 _ ?s1 HC0.out HX.out).mono ?_; (case s1 => exact Kd.C_below HR0.out ((Below.refl _ _).alloc (Nat.le_refl _) _)); rintro e w1 ⟨rfl, hb⟩; have hz : w.heap.size < w1.heap.size := (by have := hb.size; simp at this; omega); have hz1 : ¬ w1.heap.size = w.heap.size := (by omega); have hz2 : ¬ w.heap.size = w1.heap.size := (by omega); have HB := Aside0.mk (((Below.refl w.heap.size w).alloc (Nat.le_refl _) _).trans (hb.mono (by simp))); have hb' := Below.mono hb (B' := w.heap.size + 1) (by simp); have z0 := (at_new hb' 0).1; have z1 := (at_new hb' 1).1; have y0 := (at_new hb' 0).2; have y1 := (at_new hb' 1).2; simp [go_sem] at z0 z1 y0 y1; clear hb hb')
  refine bodyPost_ret (v := .tuple #[.agg #[.pointer none, .int .i64 0], .bool false]) (by simp [results, Try.results54, go_sem, z0, z1, hz, hz1, hz2]) rfl ⟨rfl, ?_⟩
  exact ((HB.out.setCell (p := ⟨w.heap.size, 0, none⟩) (Nat.le_refl _) _).setCell (p := ⟨w.heap.size, 1, none⟩) (Nat.le_refl _) _).alloc (by simp; omega) _
set_option maxRecDepth 100000 in
set_option maxHeartbeats 4000000 in
theorem simple_isnt_b (A0 : Option Addr) (c0 : Nat) (l0 : List Pt) (w : World) (hr0 : Kd.C k37 w A0 l0.length l0) (hc0 : l0.length ≤ c0) (h : Pure.cvB l0 = true) (hn : simpleB l0 = false) :
    Calls Try.prog 54 #[.slice A0 l0.length c0] w (NoRing w) := by
  have HR0 := Aside0.mk hr0
  have HC0 := Aside0.mk hc0
  have HX := Aside0.mk h
  have HN := Aside0.mk hn
  clear hr0 hc0 h hn
  go_enter Try.func54, Try.ntmps54
  go_wp2_with (first | (go_at_call 50; refine (outline_is A0 c0 l0 _ ?s1 HC0.out HX.out).mono ?_; (case s1 => exact Kd.C_below HR0.out ((Below.refl _ _).alloc (Nat.le_refl _) _)); rintro e w1 ⟨bs, rfl, hR, hlo0, hb⟩; have HLO := Aside0.mk (fun j hj => (show w.heap.size + 1 ≤ bs j from by have := hlo0 j hj; simpa using this)); clear hlo0; have hz : w.heap.size < w1.heap.size := (by have := hb.size; simp at this; omega); have hz1 : ¬ w1.heap.size = w.heap.size := (by omega); have hz2 : ¬ w.heap.size = w1.heap.size := (by omega); have HB := Aside0.mk (((Below.refl w.heap.size w).alloc (Nat.le_refl _) _).trans (hb.mono (by simp))); have hb' := Below.mono hb (B' := w.heap.size + 1) (by simp); have z0 := (at_new hb' 0).1; have z1 := (at_new hb' 1).1; have y0 := (at_new hb' 0).2; have y1 := (at_new hb' 1).2; simp [go_sem] at z0 z1 y0 y1; have HR := Aside0.mk hR; clear hb hb' hR) | (go_at_call 77; refine (simple_b w1.heap.size bs l0 _ (HR.out.below ((Below.refl _ _).alloc (Nat.le_refl _) _)) (by simp) false HN.out).mono ?_; rintro e w2 ⟨rfl, hb2⟩; have hs2 : w1.heap.size + 1 ≤ w2.heap.size := (by have := hb2.size; simp at this; omega); have HB2 := Aside0.mk ((HB.out.alloc (by omega) (.cells #[.pointer (some ⟨bs 0, 0, none⟩), .int .i64 l0.length] 54)).trans (hb2.mono (by simp; omega))); have hb1 : Below (w1.heap.size + 1) (w1.alloc (.cells #[.pointer (some ⟨bs 0, 0, none⟩), .int .i64 l0.length] 54)) w2 := hb2.mono (by simp); have q0 := ((((Below.refl w1.heap.size w1).alloc (Nat.le_refl _) _).trans (hb1.mono (by omega))).cell (p := ⟨w.heap.size, 0, none⟩) hz).trans z0; have q1 := ((((Below.refl w1.heap.size w1).alloc (Nat.le_refl _) _).trans (hb1.mono (by omega))).cell (p := ⟨w.heap.size, 1, none⟩) hz).trans z1; have x0 := ((((Below.refl w1.heap.size w1).alloc (Nat.le_refl _) _).trans (hb1.mono (by omega))).frozen (p := ⟨w.heap.size, 0, none⟩) hz).trans y0; have x1 := ((((Below.refl w1.heap.size w1).alloc (Nat.le_refl _) _).trans (hb1.mono (by omega))).frozen (p := ⟨w.heap.size, 1, none⟩) hz).trans y1; have v0 := (at_new hb1 0).1; have v1 := (at_new hb1 1).1; simp at v0 v1; have HR2 := Aside0.mk (((HR.out.below ((Below.refl _ _).alloc (Nat.le_refl _) _)).below (hb1.mono (by omega)) |>.mono (show w1.heap.size ≤ w2.heap.size by omega))); clear hb2 hb1))
  refine bodyPost_ret (v := .tuple #[.agg #[.pointer none, .int .i64 0], .bool false]) (by simp [results, Try.results54, go_sem, q0, q1, hz, hz1, hz2]) rfl ⟨rfl, ?_⟩
  exact (HB2.out.setCell (p := ⟨w.heap.size, 0, none⟩) (Nat.le_refl _) _).setCell (p := ⟨w.heap.size, 1, none⟩) (Nat.le_refl _) _
set_option maxRecDepth 100000 in
set_option maxHeartbeats 4000000 in
theorem simple_is (A0 : Option Addr) (c0 : Nat) (l0 : List Pt) (w : World) (hr0 : Kd.C k37 w A0 l0.length l0) (hc0 : l0.length ≤ c0) (h : Pure.cvB l0 = true) (hn : simpleB l0 = true) :
    Calls Try.prog 54 #[.slice A0 l0.length c0] w (IsRing w l0) := by
  have HR0 := Aside0.mk hr0
  have HC0 := Aside0.mk hc0
  have HX := Aside0.mk h
  have HN := Aside0.mk hn
  clear hr0 hc0 h hn
  go_enter Try.func54, Try.ntmps54
  go_wp2_with (first | (go_at_call 50; refine (outline_is A0 c0 l0 _ ?s1 HC0.out HX.out).mono ?_; (case s1 => exact Kd.C_below HR0.out ((Below.refl _ _).alloc (Nat.le_refl _) _)); rintro e w1 ⟨bs, rfl, hR, hlo0, hb⟩; have HLO := Aside0.mk (fun j hj => (show w.heap.size + 1 ≤ bs j from by have := hlo0 j hj; simpa using this)); clear hlo0; have hz : w.heap.size < w1.heap.size := (by have := hb.size; simp at this; omega); have hz1 : ¬ w1.heap.size = w.heap.size := (by omega); have hz2 : ¬ w.heap.size = w1.heap.size := (by omega); have HB := Aside0.mk (((Below.refl w.heap.size w).alloc (Nat.le_refl _) _).trans (hb.mono (by simp))); have hb' := Below.mono hb (B' := w.heap.size + 1) (by simp); have z0 := (at_new hb' 0).1; have z1 := (at_new hb' 1).1; have y0 := (at_new hb' 0).2; have y1 := (at_new hb' 1).2; simp [go_sem] at z0 z1 y0 y1; have HR := Aside0.mk hR; clear hb hb' hR) | (go_at_call 77; refine (simple_b w1.heap.size bs l0 _ (HR.out.below ((Below.refl _ _).alloc (Nat.le_refl _) _)) (by simp) true HN.out).mono ?_; rintro e w2 ⟨rfl, hb2⟩; have hs2 : w1.heap.size + 1 ≤ w2.heap.size := (by have := hb2.size; simp at this; omega); have HB2 := Aside0.mk ((HB.out.alloc (by omega) (.cells #[.pointer (some ⟨bs 0, 0, none⟩), .int .i64 l0.length] 54)).trans (hb2.mono (by simp; omega))); have hb1 : Below (w1.heap.size + 1) (w1.alloc (.cells #[.pointer (some ⟨bs 0, 0, none⟩), .int .i64 l0.length] 54)) w2 := hb2.mono (by simp); have q0 := ((((Below.refl w1.heap.size w1).alloc (Nat.le_refl _) _).trans (hb1.mono (by omega))).cell (p := ⟨w.heap.size, 0, none⟩) hz).trans z0; have q1 := ((((Below.refl w1.heap.size w1).alloc (Nat.le_refl _) _).trans (hb1.mono (by omega))).cell (p := ⟨w.heap.size, 1, none⟩) hz).trans z1; have x0 := ((((Below.refl w1.heap.size w1).alloc (Nat.le_refl _) _).trans (hb1.mono (by omega))).frozen (p := ⟨w.heap.size, 0, none⟩) hz).trans y0; have x1 := ((((Below.refl w1.heap.size w1).alloc (Nat.le_refl _) _).trans (hb1.mono (by omega))).frozen (p := ⟨w.heap.size, 1, none⟩) hz).trans y1; have v0 := (at_new hb1 0).1; have v1 := (at_new hb1 1).1; simp at v0 v1; have HR2 := Aside0.mk (((HR.out.below ((Below.refl _ _).alloc (Nat.le_refl _) _)).below (hb1.mono (by omega)) |>.mono (show w1.heap.size ≤ w2.heap.size by omega))); clear hb2 hb1))
  refine bodyPost_ret (v := .tuple #[.agg #[.pointer (some ⟨bs 0, 0, none⟩), .int .i64 l0.length], .bool true]) (by simp [results, Try.results54, go_sem, q0, q1, hz, hz1, hz2]) rfl ⟨bs, rfl, ?_, fun j hj => by have := HLO.out j hj; omega, ?_⟩
  · exact ((HR2.out.setCell (p := ⟨w.heap.size, 0, none⟩) (fun j hj => by have := HLO.out j hj; dsimp only; omega) _).setCell (p := ⟨w.heap.size, 1, none⟩) (fun j hj => by have := HLO.out j hj; dsimp only; omega) _).mono (by simp)
  · exact (HB2.out.setCell (p := ⟨w.heap.size, 0, none⟩) (Nat.le_refl _) _).setCell (p := ⟨w.heap.size, 1, none⟩) (Nat.le_refl _) _

end Go.Proofs.Ytiieoannejlgiaa.Ring
