/- The merged net, as the program makes it: the walk. -/
import Derived.Test.YtbbpianfoimejaaLinkL
import Derived.BigRegion
import Derived.Test.YtbbpianfoimejaaQ11
namespace Go.Proofs.Ytbbpianfoimejaa.MergeW
open Go.RowKit Go.Proofs.Ytbbpianfoimejaa.Q Go.Proofs.Ytbbpianfoimejaa.Pure Go.Proofs.YtbbpianfoimejaaW.PrintWords Go.Proofs.YtbbpianfoimejaaW.PrintLast Go.Proofs.YtbbpianfoimejaaW.PrintMore
set_option linter.unusedVariables false
set_option linter.unusedSimpArgs false
attribute [local go_sem] max2_int min2_int max_two min_two max_three min_three max_four min_four   -- for this text's walks alone
theorem hasRun_eq' (q : Nat) (n : Int) (l : List Run) (k : Int) (hq : 20 < q) : impl_hasRun.f q n l k = some (decide (nvB n l = true ∧ 0 ≤ k ∧ k < l.length)) := by
  simp only [impl_hasRun.f, impl_NetValid_eq q n l hq, Option.bind_some]
  by_cases h : nvB n l = true
  · rw [if_pos h]
    by_cases h1 : 0 ≤ k
    · rw [if_pos (by omega)]; congr 1; rw [decide_eq_decide]; simp [h, h1]
    · rw [if_neg (by omega), decide_eq_false (by simp [h1])]
  · rw [if_neg h, decide_eq_false (by simp [h])]
/-- The number of a node in the merged net. -/
def num (lo hi x : Int) : Int := if x = hi then lo else if x > hi then wrap64 (x - 1) else x
theorem num_calls (pm px : Addr) (lo hi node : Int) (w : World) (h1 : w.cell? px = some (.int .i64 hi)) (h2 : w.cell? pm = some (.int .i64 lo)) :
    Calls Try.prog 43 #[.int .i64 node, .pointer (some px), .pointer (some pm)] w fun e w' => e = .returned (.int .i64 (num lo hi node)) ∧ ∃ d, w' = w.drewN d := by
  unfold num
  by_cases c1 : node = hi
  · subst c1
    rw [if_pos rfl]
    go_enter Try.func43, Try.ntmps43
    go_wp2
    go_ret
    exact ⟨rfl, 0, rfl⟩
  · rw [if_neg c1]
    have c1b : (node == hi) = false := by simpa using c1
    by_cases c2 : node > hi
    · rw [if_pos c2]
      have c2b : decide (hi < node) = true := decide_eq_true c2
      go_enter Try.func43, Try.ntmps43
      go_wp2
      go_ret
      exact ⟨rfl, 0, rfl⟩
    · rw [if_neg c2]
      have c2b : decide (hi < node) = false := decide_eq_false c2
      go_enter Try.func43, Try.ntmps43
      go_wp2
      go_ret
      exact ⟨rfl, 0, rfl⟩
theorem cell_alloc {w : World} {a : Addr} {v : Value} (h : w.cell? a = some v) (o : Obj) : (w.alloc o).cell? a = some v :=
  (World.cell?_of_block (heap_alloc_old w o (World.block_lt_of_cell? w a h))).trans h
theorem cell_set {w : World} {p q : Addr} {u v : Value} (h : w.cell? q = some v) (hne : q.block ≠ p.block) : (w.setCell p u).cell? q = some v :=
  (World.cell?_of_block (Below.heap_setCell w p u q.block hne)).trans h
/-- A run laid in a variable. -/
def put4 (w : World) (g : Nat) (a b c d : Int) : World := (((w.setCell ⟨g, 0, none⟩ (.int .i64 a)).setCell ⟨g, 1, none⟩ (.int .i64 b)).setCell ⟨g, 2, none⟩ (.int .i64 c)).setCell ⟨g, 3, none⟩ (.int .i64 d)
theorem put4_blk {w : World} {g : Nat} {a b c d : Int} {t : TypeId} (h : w.heap[g]? = some (.cells #[.int .i64 0, .int .i64 0, .int .i64 0, .int .i64 0] t (0, 0))) : (put4 w g a b c d).heap[g]? = some (.cells #[.int .i64 a, .int .i64 b, .int .i64 c, .int .i64 d] t (0, 0)) := by
  unfold put4
  refine blk_put (cs := #[.int .i64 a, .int .i64 b, .int .i64 c, .int .i64 0]) ?_ 3 _ rfl
  refine blk_put (cs := #[.int .i64 a, .int .i64 b, .int .i64 0, .int .i64 0]) ?_ 2 _ rfl
  refine blk_put (cs := #[.int .i64 a, .int .i64 0, .int .i64 0, .int .i64 0]) ?_ 1 _ rfl
  exact blk_put h 0 _ rfl
theorem put4_cell {w : World} {g : Nat} {a b c d : Int} {q : Addr} {v : Value} (h : w.cell? q = some v) (hne : q.block ≠ g) : (put4 w g a b c d).cell? q = some v :=
  cell_set (cell_set (cell_set (cell_set h hne) hne) hne) hne
theorem put4_R {w : World} {g : Nat} {a b c d : Int} {e base : Nat} {v : Value} {xs : List Run} (h : Kd.R k46 e w base (fun k => True ∧ k ≠ g) v xs) : Kd.R k46 e (put4 w g a b c d) base (fun k => True ∧ k ≠ g) v xs :=
  Kd.R_far (Kd.R_far (Kd.R_far (Kd.R_far h (fun _ hk => hk.2) _) (fun _ hk => hk.2) _) (fun _ hk => hk.2) _) (fun _ hk => hk.2) _
theorem put4_below {B : Nat} {w w1 : World} {g : Nat} {a b c d : Int} (h : Below B w w1) (hg : B ≤ g) : Below B w (put4 w1 g a b c d) :=
  (((h.setCell (p := ⟨g, 0, none⟩) hg _).setCell (p := ⟨g, 1, none⟩) hg _).setCell (p := ⟨g, 2, none⟩) hg _).setCell (p := ⟨g, 3, none⟩) hg _
/-- The merged runs. -/
def mgo (lo hi : Int) (r : Run) : List Run := if num lo hi r.f0 = num lo hi r.f1 then [] else [⟨num lo hi r.f0, num lo hi r.f1, r.f2, r.f3⟩]
def mgs (lo hi : Int) (l : List Run) : List Run := l.flatMap (mgo lo hi)
def loK (l : List Run) (k : Int) : Int := min (rd_T46 l k).f0 (rd_T46 l k).f1
def hiK (l : List Run) (k : Int) : Int := max (rd_T46 l k).f0 (rd_T46 l k).f1
theorem meas_up {n i : Nat} (h : i < n) (e : wrap64 ((i : Int) + 1) = ((i + 1 : Nat) : Int)) : n - (intOf (.int .i64 (wrap64 ((i : Int) + 1)))).toNat < n - (intOf (.int .i64 (i : Int))).toNat := by
  rw [e]
  show n - (i + 1) < n - i
  omega
theorem take_rd (l : List Run) (i : Nat) (h : i < l.length) : l.take (i + 1) = l.take i ++ [rd_T46 l i] := by
  rw [List.take_add_one, List.getElem?_eq_getElem h]
  simp [rd_T46, h]
theorem mgs_snoc (lo hi : Int) (l : List Run) (r : Run) : mgs lo hi (l ++ [r]) = mgs lo hi l ++ mgo lo hi r := by simp [mgs]
theorem mgs_len (lo hi : Int) (l : List Run) : (mgs lo hi l).length ≤ l.length := by
  induction l with
  | nil => simp [mgs]
  | cons r l ih =>
    have : mgs lo hi (r :: l) = mgo lo hi r ++ mgs lo hi l := by simp [mgs]
    have h1 : (mgo lo hi r).length ≤ 1 := by unfold mgo; split <;> simp
    rw [this, List.length_append, List.length_cons]; omega
structure BoxF (wb w4 : World) (g g0 : Nat) (lo hi a b c d : Int) (v : Value) (xs : List Run) : Prop where
  blk : w4.heap[g]? = some (.cells #[.int .i64 a, .int .i64 b, .int .i64 c, .int .i64 d] 46 (0, 0))
  c0 : w4.cell? ⟨g, 0, none⟩ = some (.int .i64 a)
  c1 : w4.cell? ⟨g, 1, none⟩ = some (.int .i64 b)
  c2 : w4.cell? ⟨g, 2, none⟩ = some (.int .i64 c)
  c3 : w4.cell? ⟨g, 3, none⟩ = some (.int .i64 d)
  lo : w4.cell? ⟨g0, 0, none⟩ = some (.int .i64 lo)
  hi : w4.cell? ⟨g0 + 1, 0, none⟩ = some (.int .i64 hi)
  R : Kd.R k46 46 w4 wb.heap.size (fun k => True ∧ k ≠ g) v xs
  be : Below wb.heap.size wb w4
theorem box_facts {w wb wr w29 : World} {gb g0 : Nat} {lo hi : Int} {v : Value} {xs : List Run} (hg : gb = wr.heap.size) (hbox : w29.heap[gb]? = some (.cells #[.int .i64 0, .int .i64 0, .int .i64 0, .int .i64 0] 46 (0, 0))) (hb : Below wr.heap.size wr w29)
    (HO : Kd.R k46 46 wr wb.heap.size (fun _ => True) v xs) (HW : Below wb.heap.size wb wr) (C9 : wb.cell? ⟨g0, 0, none⟩ = some (.int .i64 lo) ∧ wb.cell? ⟨g0 + 1, 0, none⟩ = some (.int .i64 hi)) (G9 : w.heap.size ≤ g0 ∧ wb.heap.size = g0 + 2) (a b c d : Int) :
    BoxF wb (put4 w29 gb a b c d) gb g0 lo hi a b c d v xs := by
  have hs := HW.size
  have hw : Below wb.heap.size wb w29 := HW.trans (hb.mono hs)
  have B := put4_blk (a := a) (b := b) (c := c) (d := d) hbox
  refine ⟨B, (blk_cell B 0).trans rfl, (blk_cell B 1).trans rfl, (blk_cell B 2).trans rfl, (blk_cell B 3).trans rfl, put4_cell ((hw.cell (World.block_lt_of_cell? wb _ C9.1)).trans C9.1) (by show g0 ≠ gb; omega), put4_cell ((hw.cell (World.block_lt_of_cell? wb _ C9.2)).trans C9.2) (by show g0 + 1 ≠ gb; omega),
    put4_R (Kd.R_below (Kd.R_elderB HO gb (Nat.le_of_eq hg.symm)) hb), put4_below hw (by omega)⟩
set_option maxHeartbeats 8000000 in
set_option maxRecDepth 100000 in
theorem netMerge_calls (n kk : Int) (A1 : Option Addr) (c1 : Nat) (l : List Run) (w : World) (hr1 : Kd.C k46 w A1 l.length l) (hc1 : l.length ≤ c1) (hv : nvB n l = true) (h0 : 0 ≤ kk) (h1 : kk < l.length) (h3 : 3 ≤ n) :
    Calls Try.prog 25 #[.int .i64 n, .slice A1 l.length c1, .int .i64 kk] w fun e w' => ∃ v1_ : Value, e = .returned (.tuple #[.int .i64 (wrap64 (n - 1)), v1_, .bool true]) ∧ Kd.R k46 46 w' w.heap.size (fun _ => True) v1_ (mgs (loK l kk) (hiK l kk) l) ∧ Below w.heap.size w w' := by
  have hmf : ∀ (fn : Fn) (first cap : Array Value) (w : World), (Instr.makeFunc fn first cap).run Try.prog w = .ok (.func fn first cap) w := fun _ _ _ _ => rfl
  have hn := Aside0.mk (nvB_n hv)
  have HR1 := Aside0.mk hr1
  have HC1 := Aside0.mk hc1
  have HV := Aside0.mk hv
  have HB := Aside0.mk (Below.refl w.heap.size w)
  obtain ⟨ad, e0, x0, x1, x2, x3⟩ := at_T46 hr1 kk h0 h1
  subst e0
  have e1 : wrap64 (n - 1) = n - 1 := nw64 (by have := hn.out; omega) (by have := hn.out; omega)
  have e2 : decide (n - 1 < 2) = false := decide_eq_false (by omega)
  have A5 := Aside0.mk ((hasRun_eq' 21 n l kk (by omega)).trans (congrArg some (decide_eq_true ⟨hv, h0, h1⟩)))
  have p0 := eq_true h0
  have q0 := eq_true h1
  have X0 := Aside0.mk x0
  have X1 := Aside0.mk x1
  clear hr1 hc1 hv h0 h1
  go_enter Try.func25, Try.ntmps25
  go_upto_region 1 with (fail)
  go_wp2_with (first | (go_at_call 38; (with_reducible refine (impl_hasRun.calls 21 n _ _ l kk true _ ?side1 ?side2 A5.out).mono ?_); (case side1 => exact HR1.out); (case side2 => exact HC1.out); rintro e w9 ⟨rfl, hb⟩; have n0_ := Aside0.mk (below_step HB.out hb); clear HB; have HB := n0_; clear n0_ hb; replace x0 := (HB.out.cell (World.block_lt_of_cell? w _ x0)).trans x0; replace x1 := (HB.out.cell (World.block_lt_of_cell? w _ x1)).trans x1))
  have y0 := cell_alloc x0 (.cells #[.int .i64 0] 3)
  have y1 := cell_alloc x1 (.cells #[.int .i64 0] 3)
  go_region
  generalize hlo : (if (rd_T46 l kk).f1 < (rd_T46 l kk).f0 then (rd_T46 l kk).f1 else (rd_T46 l kk).f0) = lo
  obtain rfl : lo = loK l kk := by unfold loK; omega
  clear y0 y1
  have g1 : w.heap.size ≤ w9.heap.size := HB.out.size
  have c9 : ((w9.alloc (.cells #[.int .i64 (loK l kk)] 3)).drew).cell? ⟨w9.heap.size, 0, none⟩ = some (.int .i64 (loK l kk)) := by simp
  have hb1 : Below w.heap.size w ((w9.alloc (.cells #[.int .i64 (loK l kk)] 3)).drew) := below_drew1 (below_alloc HB.out _)
  have f1 : ((w9.alloc (.cells #[.int .i64 (loK l kk)] 3)).drew).heap.size = w9.heap.size + 1 := by simp
  generalize ((w9.alloc (.cells #[.int .i64 (loK l kk)] 3)).drew) = wa at c9 hb1 f1 ⊢
  have x0' := (hb1.cell (World.block_lt_of_cell? w _ X0.out)).trans X0.out
  have x1' := (hb1.cell (World.block_lt_of_cell? w _ X1.out)).trans X1.out
  clear HB x0 x1
  have HB := Aside0.mk hb1
  clear hb1
  go_wp2
  have y0 := cell_alloc x0' (.cells #[.int .i64 0] 3)
  have y1 := cell_alloc x1' (.cells #[.int .i64 0] 3)
  go_region
  generalize hhi : (if (rd_T46 l kk).f0 < (rd_T46 l kk).f1 then (rd_T46 l kk).f1 else (rd_T46 l kk).f0) = hi
  obtain rfl : hi = hiK l kk := by unfold hiK; omega
  clear y0 y1 x0' x1'
  have c10 : ((wa.alloc (.cells #[.int .i64 (hiK l kk)] 3)).drew).cell? ⟨w9.heap.size + 1, 0, none⟩ = some (.int .i64 (hiK l kk)) := by rw [← f1]; simp
  have c9 : ((wa.alloc (.cells #[.int .i64 (hiK l kk)] 3)).drew).cell? ⟨w9.heap.size, 0, none⟩ = some (.int .i64 (loK l kk)) := by simpa using cell_alloc c9 (.cells #[.int .i64 (hiK l kk)] 3)
  have hb1 : Below w.heap.size w ((wa.alloc (.cells #[.int .i64 (hiK l kk)] 3)).drew) := below_drew1 (below_alloc HB.out _)
  have f2 : ((wa.alloc (.cells #[.int .i64 (hiK l kk)] 3)).drew).heap.size = w9.heap.size + 2 := by simp [f1]
  generalize ((wa.alloc (.cells #[.int .i64 (hiK l kk)] 3)).drew) = wb at c9 c10 hb1 f2 ⊢
  clear HB f1
  have HB := Aside0.mk hb1
  have G9 := Aside0.mk (And.intro g1 f2)
  have C9 := Aside0.mk (And.intro c9 c10)
  clear hb1 c9 c10 f2 g1 hlo hhi X0 X1 x2 x3
  go_wp2_with (first | ((with_reducible refine gate_dst (N := 51) rfl ?_); (try (refine gate_guard (by rfl) ?_; dsimp only)); refine Kd.R_lit k46 _ 46 ?hg (N := 51) ?hd (xs := ([] : List Run)) (inner := []) (ok := fun _ => True) (okp := fun _ => True) ?hr ?hp (fun _ hk => hk) trivial (Below.refl _ _) (Nat.le_refl _) (by simp) ?_; (case hd => rfl); (case hg => rfl); (case hr => first | (go_simp; done) | (go_simp; rfl)); (case hp => exact (Reps.none _ _)); intro v345 w19 ho20 hb hg_ hnew_))
  have HO0 := Aside0.mk ho20
  have HW0 := Aside0.mk hb
  clear ho20 hb hg_ hnew_
  go_loopw [12, 54] (fun v12 v54 wr => ∃ i : Nat, i ≤ l.length ∧ v54 = .int .i64 i ∧ Aside0 (Kd.R k46 46 wr wb.heap.size (fun _ => True) v12 (mgs (loK l kk) (hiK l kk) (l.take i))) ∧ Aside0 (Below wb.heap.size wb wr)) (fun _ v54 _ => l.length - (intOf v54).toNat)
  case atStart => exact ⟨0, Nat.zero_le _, rfl, ⟨by simpa [mgs] using HO0.out⟩, HW0⟩
  case round =>
    clear HO0 HW0
    obtain ⟨i, hi, rfl, HO, HW⟩ := hrel
    by_cases hlt : i < l.length
    · have hb2 : Below w.heap.size w wr := HB.out.trans (HW.out.mono HB.out.size)
      obtain ⟨ad', e', x0, x1, x2, x3⟩ := at_T46 HR1.out i (by omega) (by omega)
      obtain rfl : ad = ad' := by injection e'
      rw [Int.toNat_natCast] at x0 x1 x2 x3
      replace x0 := (hb2.cell (World.block_lt_of_cell? w _ x0)).trans x0
      replace x1 := (hb2.cell (World.block_lt_of_cell? w _ x1)).trans x1
      replace x2 := (hb2.cell (World.block_lt_of_cell? w _ x2)).trans x2
      replace x3 := (hb2.cell (World.block_lt_of_cell? w _ x3)).trans x3
      have q0 := eq_true (show (0 : Int) ≤ (i : Int) by omega)
      have q1 := eq_true (show (i : Int) < (l.length : Int) by omega)
      go_wp2_with (first | ((with_reducible refine gate_dst (N := 14) rfl ?_); (try (refine gate_guard (by rfl) ?_; dsimp only)); refine box_event ?hg (N := 14) ?hd (cs := #[.int .i64 0, .int .i64 0, .int .i64 0, .int .i64 0]) (t := 46) ?hr ?_; (case hd => rfl); (case hg => rfl); (case hr => first | (go_simp; done) | (go_simp; rfl)); intro gb hg w29 hbox hb; have K := box_facts hg hbox hb HO.out HW.out C9.out G9.out (rd_T46 l i).f0 (rd_T46 l i).f1 (rd_T46 l i).f2 (rd_T46 l i).f3; have KK := Aside0.mk K; have k1 := K.c0; have k2 := K.c1; have k3 := K.c2; have k4 := K.c3; have k5 := K.lo; have k6 := K.hi; unfold put4 at k1 k2 k3 k4 k5 k6; have hcz0 : w29.cell? ⟨gb, 0, none⟩ = some (.int .i64 0) := (blk_cell hbox 0).trans rfl; have hcz1 : w29.cell? ⟨gb, 1, none⟩ = some (.int .i64 0) := (blk_cell hbox 1).trans rfl; have hcz2 : w29.cell? ⟨gb, 2, none⟩ = some (.int .i64 0) := (blk_cell hbox 2).trans rfl; have hcz3 : w29.cell? ⟨gb, 3, none⟩ = some (.int .i64 0) := (blk_cell hbox 3).trans rfl; have hfz0 := blk_frozen hbox 0; have hfz1 := blk_frozen hbox 1; have hfz2 := blk_frozen hbox 2; have hfz3 := blk_frozen hbox 3; clear K hbox hb hg) | (go_at_call 43; (with_reducible refine (num_calls _ _ _ _ _ _ (by first | exact k6 | exact K6) (by first | exact k5 | exact K5)).mono ?_); rintro e w' ⟨rfl, ⟨nd, rfl⟩⟩; (try first | exact ⟨rfl, _, World.drewN_drewN _ _ _⟩ | exact ⟨rfl, _, Eq.trans (World.drewN_drewN _ _ _) (congrArg (World.drewN _) (Nat.add_assoc _ _ _))⟩)))
      clear k1 k2 k3 k4 k5 k6 hcz0 hcz1 hcz2 hcz3 hfz0 hfz1 hfz2 hfz3 x0 x1 x2 x3 hb2
      replace KK := KK.out
      unfold put4 at KK
      generalize ((((w29.setCell ⟨gb, 0, none⟩ (.int .i64 (rd_T46 l i).f0)).setCell ⟨gb, 1, none⟩ (.int .i64 (rd_T46 l i).f1)).setCell ⟨gb, 2, none⟩ (.int .i64 (rd_T46 l i).f2)).setCell ⟨gb, 3, none⟩ (.int .i64 (rd_T46 l i).f3)) = w4 at KK ⊢
      have k1 := KK.c0; have k2 := KK.c1; have k5 := KK.lo; have k6 := KK.hi
      replace KK := Aside0.mk KK
      clear HW HO
      go_quiet (first | (go_at_call 43; (with_reducible refine (num_calls _ _ _ _ _ _ (by first | exact k6 | simpa using k6) (by first | exact k5 | simpa using k5)).mono ?_); rintro e w' ⟨rfl, ⟨nd, rfl⟩⟩; (try first | exact ⟨rfl, _, World.drewN_drewN _ _ _⟩ | exact ⟨rfl, _, Eq.trans (World.drewN_drewN _ _ _) (congrArg (World.drewN _) (Nat.add_assoc _ _ _))⟩)))
      clear k1 k2 k5 k6
      have hT : l.take (i + 1) = l.take i ++ [rd_T46 l i] := take_rd l i hlt
      have lx : (mgs (loK l kk) (hiK l kk) (l.take i)).length ≤ 12 := Nat.le_trans (mgs_len _ _ _) (by have := hn.out; simp; omega)
      have e9 : wrap64 ((i : Int) + 1) = ((i + 1 : Nat) : Int) := by rw [nw64 (by omega) (by have := hn.out; omega)]; omega
      by_cases c : num (loK l kk) (hiK l kk) (rd_T46 l i).f0 = num (loK l kk) (hiK l kk) (rd_T46 l i).f1
      · have hT2 : mgs (loK l kk) (hiK l kk) (l.take (i + 1)) = mgs (loK l kk) (hiK l kk) (l.take i) := by rw [hT, mgs_snoc, mgo, if_pos c]; simp
        have cb : (num (loK l kk) (hiK l kk) (rd_T46 l i).f0 != num (loK l kk) (hiK l kk) (rd_T46 l i).f1) = false := by simpa using c
        go_wp2
        go_roundw
        case rel => exact ⟨i + 1, by omega, by rw [e9], ⟨by rw [hT2]; exact Kd.R_mono (Kd.R_drewN KK.out.R _) (fun _ _ => trivial)⟩, ⟨pw_below_drewN KK.out.be _⟩⟩
        case measure => exact meas_up hlt e9
      · have hT2 : mgs (loK l kk) (hiK l kk) (l.take (i + 1)) = mgs (loK l kk) (hiK l kk) (l.take i) ++ [⟨num (loK l kk) (hiK l kk) (rd_T46 l i).f0, num (loK l kk) (hiK l kk) (rd_T46 l i).f1, (rd_T46 l i).f2, (rd_T46 l i).f3⟩] := by rw [hT, mgs_snoc, mgo, if_neg c]
        have cb : (num (loK l kk) (hiK l kk) (rd_T46 l i).f0 != num (loK l kk) (hiK l kk) (rd_T46 l i).f1) = true := by simpa using c
        have k3 := KK.out.c2; have k4 := KK.out.c3
        go_wp2_with (first | ((with_reducible refine gate_builtin (b := .append) (xs := #[.tmp 69, .tmp 77]) rfl ?_); (try (refine gate_guard (by rfl) ?_; dsimp only)); at_builtin; refine Kd.R_append k46 (w0 := wb) wb.heap.size rfl (.tmp 69) (.tmp 77) 24 46 (.agg #[(.int .i64 0), (.int .i64 0), (.int .i64 0), (.int .i64 0)]) 32 rfl Try.underlying24 info46 rfl (by decide) (by omega) u12 (mgs (loK l kk) (hiK l kk) (l.take i)) (⟨num (loK l kk) (hiK l kk) (rd_T46 l i).f0, num (loK l kk) (hiK l kk) (rd_T46 l i).f1, (rd_T46 l i).f2, (rd_T46 l i).f3⟩ : Run) [.int .i64 (num (loK l kk) (hiK l kk) (rd_T46 l i).f0), .int .i64 (num (loK l kk) (hiK l kk) (rd_T46 l i).f1), .int .i64 ((rd_T46 l i).f2), .int .i64 ((rd_T46 l i).f3)] (fun _ => True) (fun _ => False) rfl (by first | (go_simp; done) | (go_simp; rfl)) (k46_mkM _ _ _ (⟨num (loK l kk) (hiK l kk) (rd_T46 l i).f0, num (loK l kk) (hiK l kk) (rd_T46 l i).f1, (rd_T46 l i).f2, (rd_T46 l i).f3⟩ : Run)) (fun _ hk => hk.elim) (fun _ _ => trivial) (Kd.R_mono (Kd.R_drewN KK.out.R _) (fun _ _ => trivial)) (pw_below_drewN KK.out.be _) (by have := (pw_below_drewN KK.out.be nq).size; exact this) (by omega) ?_; intro v352 w31 ho hb hg hat; have HO2 := Aside0.mk ho; have HB2 := Aside0.mk hb; clear ho hb hg hat))
        go_roundw
        case rel => exact ⟨i + 1, by omega, by rw [e9], ⟨by rw [hT2]; exact HO2.out⟩, HB2⟩
        case measure => exact meas_up hlt e9
    · obtain rfl : i = l.length := by omega
      go_wp2
      go_ret3
      refine ⟨_, rfl, ?_, HB.out.trans (HW.out.mono HB.out.size)⟩
      have h := HO.out
      rw [List.take_length] at h
      exact Kd.R_lower h HB.out.size
end Go.Proofs.Ytbbpianfoimejaa.MergeW
