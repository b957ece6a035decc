/- Part 4 of what the proof of this law rests on: the functions of the translation as plain Lean functions with their walks, and the plain laws behind. -/
import Derived.LaidEqlPtr
import Derived.Lib.Builder
import Derived.Sort.LoopGhostIn
import Derived.Test.YtgdhgncdpmalcaaMFnParcel3
namespace Go.Proofs.Ytgdhgncdpmalcaa.Ring
open Go.RowKit Go.Shelf Go.Proofs.Ytgdhgncdpmalcaa.Q Go.Proofs.Ytgdhgncdpmalcaa.Drawn Go.Proofs.YtgdhgncdpmalcaaW.PrintWords Go.Proofs.YtgdhgncdpmalcaaW.PrintLast Go.Proofs.YtgdhgncdpmalcaaW.PrintMore
set_option linter.unusedVariables false
set_option linter.unusedSimpArgs false
attribute [local go_sem] Oper.semAt_some
def sameP (p q : Pt) : Bool := p.f0 == q.f0 && (p.f1 == q.f1)
theorem run_samePt (d : Nat) (w : World) (x0 y0 x1 y1 : Int) : (Op.equalIn (d + 2) 32 (.agg #[.int .i64 x0, .int .i64 x1]) (.agg #[.int .i64 y0, .int .i64 y1])).run Try.prog w = .ok (x0 == y0 && (x1 == y1)) w := by
  refine eqA_of Try.underlying32 (by kernel_rfl) ?_
  refine eqf_cons (by rfl) (by go_simp; rfl) (by go_simp; rfl) (by go_simp) ?_
  exact eqf_last (by rfl) (by go_simp; rfl) (by go_simp; rfl) (by go_simp)
def sgnP (p q r : Pt) : Int := (Pure.sideR p.f0 p.f1 q.f0 q.f1 r.f0 r.f1).1
def meetPt (a b c d : Pt) : Bool := onPt a b c || onPt a b d || onPt c d a || onPt c d b || (decide (sgnP a b c * sgnP a b d < 0) && decide (sgnP c d a * sgnP c d b < 0))
theorem sgnP_bd (p q r : Pt) : -1 ≤ sgnP p q r ∧ sgnP p q r ≤ 1 := by
  unfold sgnP Pure.sideR Pure.sgn
  split
  · dsimp only; repeat' split
    all_goals omega
  · dsimp only; omega
theorem wrapS {x y : Int} (hx : -1 ≤ x ∧ x ≤ 1) (hy : -1 ≤ y ∧ y ≤ 1) : wrap64 (x * y) = x * y := by
  have := Pure.mul_bd (m := 1) (n := 1) hx hy (by omega) (by omega)
  unfold wrap64; omega
theorem meetPt_f (a b c d : Pt) : impl_sidesMeet.f 2 a.f0 a.f1 b.f0 b.f1 c.f0 c.f1 d.f0 d.f1 = some (meetPt a b c d) := by
  unfold impl_sidesMeet.f meetPt
  simp only [impl_sidesMeet.j0, Pure.impl_PointOn_eq, Pure.impl_PointSide_eq, Option.bind_some]
  have e : ∀ p q r : Pt, Pure.onR p.f0 p.f1 q.f0 q.f1 r.f0 r.f1 = onPt p q r := fun _ _ _ => rfl
  have e2 : ∀ p q r : Pt, (Pure.sideR p.f0 p.f1 q.f0 q.f1 r.f0 r.f1).1 = sgnP p q r := fun _ _ _ => rfl
  simp only [e, e2, wrapS (sgnP_bd _ _ _) (sgnP_bd _ _ _)]
  cases onPt a b c <;> cases onPt a b d <;> cases onPt c d a <;> cases onPt c d b <;> simp
  by_cases h : sgnP a b c * sgnP a b d < 0 <;> simp [h]
/-- Corner k is met again, t places after the next one. -/
def dupAt (l : List Pt) (k t : Nat) : Bool := sameP (at_ l ((k + 1 + t) % l.length)) (at_ l k)
def foldAt (l : List Pt) (k : Nat) : Bool := onPt (at_ l k) (nxt l k) (nxt l ((k + 1) % l.length)) || onPt (nxt l k) (nxt l ((k + 1) % l.length)) (at_ l k)
/-- Side k meets side k + 2 + t. -/
def meetAt (l : List Pt) (k t : Nat) : Bool := meetPt (at_ l k) (nxt l k) (at_ l ((k + 2 + t) % l.length)) (nxt l ((k + 2 + t) % l.length))
def simpleB (l : List Pt) : Bool := ((List.range l.length).all fun i => (List.range (l.length - 1)).all fun t => !dupAt l i t) && ((List.range l.length).all fun i => !foldAt l i && (List.range (l.length - 3)).all fun t => !meetAt l i t)
theorem simpleB_dup {l : List Pt} {i t : Nat} (hi : i < l.length) (ht : t < l.length - 1) (h : dupAt l i t = true) : simpleB l = false := by
  apply Bool.eq_false_iff.2
  intro c
  unfold simpleB at c
  simp only [Bool.and_eq_true, List.all_eq_true, List.mem_range] at c
  have := c.1 i hi t ht
  rw [h] at this; exact absurd this (by decide)
theorem simpleB_fold {l : List Pt} {i : Nat} (hi : i < l.length) (h : foldAt l i = true) : simpleB l = false := by
  apply Bool.eq_false_iff.2
  intro c
  unfold simpleB at c
  simp only [Bool.and_eq_true, List.all_eq_true, List.mem_range] at c
  have := (c.2 i hi).1
  rw [h] at this; exact absurd this (by decide)
theorem simpleB_meet {l : List Pt} {i t : Nat} (hi : i < l.length) (ht : t < l.length - 3) (h : meetAt l i t = true) : simpleB l = false := by
  apply Bool.eq_false_iff.2
  intro c
  unfold simpleB at c
  simp only [Bool.and_eq_true, List.all_eq_true, List.mem_range] at c
  have := (c.2 i hi).2 t ht
  rw [h] at this; exact absurd this (by decide)
theorem simpleB_yes {l : List Pt} (h1 : ∀ i, i < l.length → ∀ t, t < l.length - 1 → dupAt l i t = false) (h2 : ∀ i, i < l.length → foldAt l i = false ∧ ∀ t, t < l.length - 3 → meetAt l i t = false) : simpleB l = true := by
  unfold simpleB
  simp only [Bool.and_eq_true, List.all_eq_true, List.mem_range]
  exact ⟨fun i hi t ht => by rw [h1 i hi t ht]; rfl, fun i hi => ⟨by rw [(h2 i hi).1]; rfl, fun t ht => by rw [(h2 i hi).2 t ht]; rfl⟩⟩
theorem infoCorner : (Try.prog.info? 75).map (fun i => i.size) = some 3 := by kernel_rfl
theorem run_neq_same (w : World) (a : Addr) : (binOp .neq 52 (.pointer (some a)) (.pointer (some a))).run Try.prog w = .ok (.bool false) w := by
  obtain ⟨j, hj⟩ : ∃ j, Try.prog.info? 75 = some j := by
    have := infoCorner
    cases h : Try.prog.info? 75 with
    | none => rw [h] at this; cases this
    | some j => exact ⟨j, rfl⟩
  exact Lib.run_neq_ptr_same w a Try.underlying52 hj
theorem run_neq_other (w : World) {a b : Nat} (h : a ≠ b) (ha : Plain w a) (hb : Plain w b) : (binOp .neq 52 (.pointer (some ⟨a, 0, none⟩)) (.pointer (some ⟨b, 0, none⟩))).run Try.prog w = .ok (.bool true) w := by
  obtain ⟨j, hj, hz⟩ : ∃ j, Try.prog.info? 75 = some j ∧ j.size ≠ 0 := by
    have := infoCorner
    cases h : Try.prog.info? 75 with
    | none => rw [h] at this; cases this
    | some j => rw [h] at this; simp at this; exact ⟨j, rfl, by omega⟩
  obtain ⟨ca, ta, ha⟩ := ha
  obtain ⟨cb, tb, hb⟩ := hb
  have hab : (⟨a, 0, none⟩ : Addr) ≠ ⟨b, 0, none⟩ := fun e => h (by injection e)
  have hd : ∀ d : Nat, (Op.equalIn (d + 1) 52 (.pointer (some ⟨a, 0, none⟩)) (.pointer (some ⟨b, 0, none⟩))).run Try.prog w = .ok false w := fun d => by
    simp [Op.equalIn, run_underlying Try.underlying52, sizeOf, typeInfo, hj, hz, run_sameAddr_other w hab ha hb]
  simp only [binOp]
  simp [Op.equal, Op.maxDepth, hd 9999]
theorem mod_ne {k t n : Nat} (hk : k < n) (ht : t < n - 1) : (k + 1 + t) % n ≠ k := by
  intro e
  rcases Nat.lt_or_ge (k + 1 + t) n with q | q
  · rw [Nat.mod_eq_of_lt q] at e; omega
  · rw [Nat.mod_eq_sub_mod q, Nat.mod_eq_of_lt (by omega)] at e; omega
theorem mod_round {k n : Nat} (hk : k < n) (hn : 1 ≤ n) : (k + 1 + (n - 1)) % n = k := by
  rw [show k + 1 + (n - 1) = k + n from by omega, Nat.add_mod_right, Nat.mod_eq_of_lt hk]
theorem mod_next (a n : Nat) : (a % n + 1) % n = (a + 1) % n := by rw [Nat.mod_add_mod]
set_option maxRecDepth 100000 in
set_option maxHeartbeats 8000000 in
theorem simple_calls (top : Nat) (bs : Nat → Nat) (l : List Pt) (w : World) (hR : Ring w top bs l) (htop : top ≤ w.heap.size) :
    Calls Try.prog 76 #[.agg #[.pointer (some ⟨bs 0, 0, none⟩), .int .i64 l.length]] w fun e w' => e = .returned (.bool (simpleB l)) ∧ Below w.heap.size w w' := by
  refine (callsIn_wide (n := 0)).1 (callsIn_of_wp_marks Try.func76 rfl trivial ?_ rfl)
  simp only [Try.ntmps76, List.size_toArray, List.length_cons, List.length_nil, Nat.reduceAdd, Nat.reduceSub, Array.replicate_succ, Array.replicate_zero, List.push_toArray, List.append_toArray, List.nil_append, List.cons_append]
  have HR := Aside0.mk hR
  clear hR
  gi_wp2
  have hs : ((w.alloc (.cells #[.pointer (some ⟨bs 0, 0, none⟩), .int .i64 l.length] 54)).alloc (.cells #[.bool false] 4)).heap.size = w.heap.size + 2 := by simp
  obtain ⟨W0, hW0⟩ : ∃ W0, (w.alloc (.cells #[.pointer (some ⟨bs 0, 0, none⟩), .int .i64 l.length] 54)).alloc (.cells #[.bool false] 4) = W0 := ⟨_, rfl⟩
  have hc0 : W0.cell? ⟨w.heap.size + 1, 0, none⟩ = some (.bool false) := by rw [← hW0]; simp [go_sem]
  have hf0 : W0.frozen? ⟨w.heap.size + 1, 0, none⟩ = false := by rw [← hW0]; simp [go_sem]
  have ho0 : W0.cell? ⟨w.heap.size, 0, none⟩ = some (.pointer (some ⟨bs 0, 0, none⟩)) := by rw [← hW0]; simp [go_sem]
  have ho1 : W0.cell? ⟨w.heap.size, 1, none⟩ = some (.int .i64 l.length) := by rw [← hW0]; simp [go_sem]
  have hb0 : Below w.heap.size w W0 := by rw [← hW0]; exact ((Below.refl _ w).alloc (Nat.le_refl _) _).alloc (by simp) _
  rw [hW0] at hs ⊢
  clear hW0
  have HR0 := Aside0.mk ((HR.out.mono htop).below hb0)
  have kd : ∀ (D : Nat) (o : Obj), D < W0.heap.size → OwnFrom W0.heap.size (fun (_ : Nat) (W : World) => W.heap[D]? = some o) := fun D o hD => fun s A B row hs hg hr => (hg.block D (Array.getElem?_eq_some_iff.1 hs).1 (fun e => by have := (hr D e.symm).1; omega)).trans hs
  refine range_ring W0.heap.size bs l (HR0.out.mono (by omega)) (Nat.le_refl _) rfl
    (fun j W => (∀ i, i < j → ∀ t, t < l.length - 1 → dupAt l i t = false) ∧ Below W0.heap.size W0 W)
    (fun c W => c = .ret ∧ (W.cell? ⟨w.heap.size + 1, 0, none⟩ = some (.bool false) ∧ Below w.heap.size w W) ∧ ∃ i t, i < l.length ∧ t < l.length - 1 ∧ dupAt l i t = true)
    ?hI ?hIx ⟨fun i hi => by omega, Below.refl _ _⟩ ?a1 ?assign ?body ?done ?stop
  case hI => exact fun s A B row hs hg hr => ⟨hs.1, ownFrom_below (β := Unit) (Nat.le_refl _) (Nat.le_refl _) () A B row hs.2 hg hr⟩
  case hIx => exact fun c A B row hs hg hr => ⟨hs.1, ⟨cell_kept hs.2.1.1 hg (fun r e => (hr r e).2), ownFrom_below (β := Unit) (n₀ := w.heap.size) (w₀ := w) (Nat.le_refl _) (by omega) () A B row hs.2.1.2 hg hr⟩, hs.2.2⟩
  case assign =>
    intro r k W K hK
    gi_wp2
    exact hK
  case stop =>
    rintro D c W hD ⟨rfl, ⟨hc, hb⟩, i, t, hi, ht, hd⟩ hK
    have hsb := Aside0.mk (simpleB_dup hi ht hd)
    have hcD : (W.putObj D (.deferred none)).cell? ⟨w.heap.size + 1, 0, none⟩ = some (.bool false) := cell_kept hc (grownBy_putObj' _ D (.deferred none)) (fun r e => by cases e; exact ⟨_, hK, rfl⟩)
    gi_wp2
    refine ⟨by simp, .inl ⟨_, _, rfl, run_takeDeferred hK, ?_⟩⟩
    refine ⟨_, (by simp [results, Try.results76, go_sem, hcD]; rfl), ?_, hb.trans (belowK_b (w := W0) (by omega) _ _ _ _ hD hK rfl rfl)⟩
    rw [hsb.out]
  case body =>
    rintro r k W hk ⟨hp, hb⟩ hbt
    have HF := wide_round Try.prog r
    have hbw : Below w.heap.size w W := hb0.trans (hb.mono (by omega))
    have hcW := (hb.cell (p := ⟨w.heap.size + 1, 0, none⟩) (by dsimp only; omega)).trans hc0
    have hfW := (hb.frozen (p := ⟨w.heap.size + 1, 0, none⟩) (by dsimp only; omega)).trans hf0
    have hRW := Aside0.mk (((HR0.out.mono (show w.heap.size ≤ W0.heap.size by omega)).below hb).mono hb.size)
    have hn3 := HR.out.pos
    have hnx := hRW.out.next k hk
    gi_wp2
    gi_loopg [4] (l.length - 1) (fun g v4 wr => ∃ t : Nat, t + g = l.length - 1 ∧ v4 = .pointer (some ⟨bs ((k + 1 + t) % l.length), 0, none⟩) ∧ Aside0 (∀ s, s < t → dupAt l k s = false) ∧ Aside0 (Below W.heap.size W wr))
    case atStart => exact ⟨0, by omega, rfl, ⟨fun s hs => by omega⟩, ⟨Below.refl _ _⟩⟩
    case round =>
      obtain ⟨t, ht, rfl, HD, HB⟩ := hrel
      clear hcW hfW
      cases gk with
      | zero =>
        obtain rfl : t = l.length - 1 := by omega
        rw [mod_round hk (by omega)]
        have hq := run_neq_same wr ⟨bs k, 0, none⟩
        gi_wp2
        refine ⟨KeepsFrom.of_below HB.out, HB.out.mono hb.size, fun i hi t ht => ?_, hb.trans (HB.out.mono hb.size)⟩
        by_cases e : i = k
        · subst e; exact HD.out t ht
        · exact hp i (by omega) t ht
      | succ g =>
        have hRr := Aside0.mk (hRW.out.below HB.out)
        have hjl : (k + 1 + t) % l.length < l.length := Nat.mod_lt _ (by omega)
        have hne : bs ((k + 1 + t) % l.length) ≠ bs k := fun e => mod_ne hk (by omega) (hRr.out.inj _ _ hjl hk e)
        have hq := run_neq_other wr hne (hRr.out.blk _ hjl) (hRr.out.blk _ hk)
        have hjn0 := Aside0.mk (fun w' (h : Below wr.heap.size wr w') => (hRr.out.mono HB.out.size).below h |>.next _ hjl)
        rw [mod_next] at hjn0
        have hrx := Aside0.mk (fun w' (h : Below wr.heap.size wr w') => (hRr.out.mono HB.out.size).below h |>.x k hk)
        have hry := Aside0.mk (fun w' (h : Below wr.heap.size wr w') => (hRr.out.mono HB.out.size).below h |>.y k hk)
        have hjx := Aside0.mk (fun w' (h : Below wr.heap.size wr w') => (hRr.out.mono HB.out.size).below h |>.x _ hjl)
        have hjy := Aside0.mk (fun w' (h : Below wr.heap.size wr w') => (hRr.out.mono HB.out.size).below h |>.y _ hjl)
        have hdj := Aside0.mk (show dupAt l k t = sameP (at_ l ((k + 1 + t) % l.length)) (at_ l k) from rfl)
        generalize (k + 1 + t) % l.length = j at *
        clear hne
        gi_wp2
        clear hq
        obtain ⟨VS, hVS⟩ : ∃ VS : List (Option Tmp × Value), [(some 21, .pointer (some ⟨bs j, 0, none⟩)), (some 22, .pointer (some ⟨bs j, 0, none⟩)), (some 23, .pointer (some ⟨bs j, 0, none⟩)), (some 24, .agg #[.int .i64 (at_ l j).f0, .int .i64 (at_ l j).f1]), (some 25, .pointer (some ⟨bs k, 0, none⟩)), (some 26, .pointer (some ⟨bs k, 0, none⟩)), (some 27, .pointer (some ⟨bs k, 0, none⟩)), (some 28, .agg #[.int .i64 (at_ l k).f0, .int .i64 (at_ l k).f1]), (some 29, .bool (sameP (at_ l j) (at_ l k)))] = VS := ⟨_, rfl⟩
        have HN : (VS.filterMap (·.1)).Nodup := by rw [← hVS]; exact (show List.Nodup [(21 : Tmp), (22 : Tmp), (23 : Tmp), (24 : Tmp), (25 : Tmp), (26 : Tmp), (27 : Tmp), (28 : Tmp), (29 : Tmp)] by decide)
        refine act_name fun A0 hA0 => ?_
        have E3 : ∀ L : List Bool, (fill VS L A0).tmps[3]?.getD undef = .pointer (some ⟨bs k, 0, none⟩) := fun L => fill_old _ _ _ (by rw [← hVS]; exact (show (3 : Tmp) ∉ [(21 : Tmp), (22 : Tmp), (23 : Tmp), (24 : Tmp), (25 : Tmp), (26 : Tmp), (27 : Tmp), (28 : Tmp), (29 : Tmp)] by decide)) (by rw [← hA0]; rfl)
        have E4 : ∀ L : List Bool, (fill VS L A0).tmps[4]?.getD undef = .pointer (some ⟨bs j, 0, none⟩) := fun L => fill_old _ _ _ (by rw [← hVS]; exact (show (4 : Tmp) ∉ [(21 : Tmp), (22 : Tmp), (23 : Tmp), (24 : Tmp), (25 : Tmp), (26 : Tmp), (27 : Tmp), (28 : Tmp), (29 : Tmp)] by decide)) (by rw [← hA0]; rfl)
        have hT_ : 29 < A0.tmps.size := by rw [← hA0]; simp
        refine drawn_same (by kernel_rfl) (early_spec (by kernel_rfl)) VS (by rw [← hVS]; rfl) HN (fun w' => Below wr.heap.size wr w') ((Below.refl _ _).drew) ?_ ?_
        · intro i o v L w' ho hv hpre hS K hK
          have hii : i = 0 ∨ i = 1 ∨ i = 2 ∨ i = 3 ∨ i = 4 ∨ i = 5 ∨ i = 6 ∨ i = 7 ∨ i = 8 := by have hq := (Array.getElem?_eq_some_iff.1 ho).1; simp at hq; omega
          rcases hii with rfl | rfl | rfl | rfl | rfl | rfl | rfl | rfl | rfl
          · obtain rfl := Option.some.inj ho
            obtain rfl := vs_at hVS hv rfl
            have e4 := E4 L
            refine st_val HF rfl (by simp) rfl (w' := w') ?_ (hK w' hS)
            generalize fill VS L A0 = A at e4 ⊢
            simp [execOp, go_sem, i64_w, e4]
          · obtain rfl := Option.some.inj ho
            obtain rfl := vs_at hVS hv rfl
            have e21 := fill_get HN hVS hT_ (t := 21) (j := 0) rfl rfl (hpre ⟨0, .data⟩ (by simp) rfl)
            refine st_val HF rfl (by simp) rfl (w' := w') ?_ (hK w' hS)
            generalize fill VS L A0 = A at e21 ⊢
            simp [execOp, go_sem, i64_w, e21]
          · obtain rfl := Option.some.inj ho
            obtain rfl := vs_at hVS hv rfl
            have e22 := fill_get HN hVS hT_ (t := 22) (j := 1) rfl rfl (hpre ⟨1, .data⟩ (by simp) rfl)
            refine st_val HF rfl (by simp) rfl (w' := w') ?_ (hK w' hS)
            generalize fill VS L A0 = A at e22 ⊢
            simp [execOp, go_sem, i64_w, e22]
          · obtain rfl := Option.some.inj ho
            obtain rfl := vs_at hVS hv rfl
            have e23 := fill_get HN hVS hT_ (t := 23) (j := 2) rfl rfl (hpre ⟨2, .data⟩ (by simp) rfl)
            have c1 := hjx.out w' hS
            have c2 := hjy.out w' hS
            refine st_val HF rfl (by simp) rfl (w' := w') ?_ (hK w' hS)
            generalize fill VS L A0 = A at e23 ⊢
            simp [execOp, go_sem, i64_w, e23, c1, c2]
          · obtain rfl := Option.some.inj ho
            obtain rfl := vs_at hVS hv rfl
            have e3 := E3 L
            refine st_val HF rfl (by simp) rfl (w' := w') ?_ (hK w' hS)
            generalize fill VS L A0 = A at e3 ⊢
            simp [execOp, go_sem, i64_w, e3]
          · obtain rfl := Option.some.inj ho
            obtain rfl := vs_at hVS hv rfl
            have e25 := fill_get HN hVS hT_ (t := 25) (j := 4) rfl rfl (hpre ⟨4, .data⟩ (by simp) rfl)
            refine st_val HF rfl (by simp) rfl (w' := w') ?_ (hK w' hS)
            generalize fill VS L A0 = A at e25 ⊢
            simp [execOp, go_sem, i64_w, e25]
          · obtain rfl := Option.some.inj ho
            obtain rfl := vs_at hVS hv rfl
            have e26 := fill_get HN hVS hT_ (t := 26) (j := 5) rfl rfl (hpre ⟨5, .data⟩ (by simp) rfl)
            refine st_val HF rfl (by simp) rfl (w' := w') ?_ (hK w' hS)
            generalize fill VS L A0 = A at e26 ⊢
            simp [execOp, go_sem, i64_w, e26]
          · obtain rfl := Option.some.inj ho
            obtain rfl := vs_at hVS hv rfl
            have e27 := fill_get HN hVS hT_ (t := 27) (j := 6) rfl rfl (hpre ⟨6, .data⟩ (by simp) rfl)
            have c1 := hrx.out w' hS
            have c2 := hry.out w' hS
            refine st_val HF rfl (by simp) rfl (w' := w') ?_ (hK w' hS)
            generalize fill VS L A0 = A at e27 ⊢
            simp [execOp, go_sem, i64_w, e27, c1, c2]
          · obtain rfl := Option.some.inj ho
            obtain rfl := vs_at hVS hv rfl
            have e24 := fill_get HN hVS hT_ (t := 24) (j := 3) rfl rfl (hpre ⟨3, .data⟩ (by simp) rfl)
            have e28 := fill_get HN hVS hT_ (t := 28) (j := 7) rfl rfl (hpre ⟨7, .data⟩ (by simp) rfl)
            have e24 := fill_get HN hVS hT_ (t := 24) (j := 3) rfl rfl (hpre ⟨3, .data⟩ (by simp) rfl)
            have e28 := fill_get HN hVS hT_ (t := 28) (j := 7) rfl rfl (hpre ⟨7, .data⟩ (by simp) rfl)
            refine st_val HF rfl (by simp) rfl (w' := w') ?_ (hK w' hS)
            generalize fill VS L A0 = A at e24 e28 ⊢
            simp [execOp, go_sem, e24, e28, run_samePt]
            rfl
        · intro w' hS'
          rw [← hVS, ← hA0]
          simp only [List.size_toArray, List.length_cons, List.length_nil, Nat.reduceAdd, List.replicate, fill, if_true, Act.put, List.setIfInBounds_toArray, List.set_cons_succ, List.set_cons_zero]
          clear HN E3 E4 hVS hA0 hT_
          have HS := Aside0.mk (HB.out.trans (hS'.mono HB.out.size))
          have hjn := hjn0.out w' hS'
          have hcW := ((hb.trans (HS.out.mono hb.size)).cell (p := ⟨w.heap.size + 1, 0, none⟩) (by dsimp only; omega)).trans hc0
          have hfW := ((hb.trans (HS.out.mono hb.size)).frozen (p := ⟨w.heap.size + 1, 0, none⟩) (by dsimp only; omega)).trans hf0
          clear hS'
          cases hd : sameP (at_ l j) (at_ l k)
          · have hdt := Aside0.mk (hdj.out.trans hd)
            clear hd
            gi_wp2
            gi_roundg g
            case measure => omega
            case rel => exact ⟨t + 1, by omega, rfl, ⟨fun s hs => by
              by_cases e : s = t
              · subst e; exact hdt.out
              · exact HD.out s (by omega)⟩, HS⟩
          · have hdt := Aside0.mk (hdj.out.trans hd)
            clear hd
            gi_wp2
            refine ⟨(KeepsFrom.of_below HS.out).trans ((KeepsOthers.setCell _ _ _).from _), rfl, ⟨World.cell?_setCell_same _ _ _ hcW, (hbw.trans (HS.out.mono hbw.size)).setCell (p := ⟨w.heap.size + 1, 0, none⟩) (by dsimp only; omega) _⟩, k, t, hk, by omega, hdt.out⟩
  case done =>
    rintro D W hD ⟨hp, hb⟩ hK
    have ho0' := (hb.cell (p := ⟨w.heap.size, 0, none⟩) (by dsimp only; omega)).trans ho0
    have ho1' := (hb.cell (p := ⟨w.heap.size, 1, none⟩) (by dsimp only; omega)).trans ho1
    have hlD := (Array.getElem?_eq_some_iff.1 hK).1
    have hs1 := hb.size
    gi_wp2
    refine range_ring W.heap.size bs l ((HR0.out.below (hb.mono (by omega))).mono (by omega)) (Nat.le_refl _) rfl
      (fun j V => (∀ i, i < j → foldAt l i = false ∧ ∀ t, t < l.length - 3 → meetAt l i t = false) ∧ Below W.heap.size W V)
      (fun c V => c = .ret ∧ (V.cell? ⟨w.heap.size + 1, 0, none⟩ = some (.bool false) ∧ Below w.heap.size w V ∧ V.heap[D]? = some (.deferred (some []))) ∧ simpleB l = false)
      ?hI2 ?hIx2 ⟨fun i hi => by omega, Below.refl _ _⟩ ?a2 ?assign2 ?body2 ?done2 ?stop2
    case hI2 => exact fun s A B row hs hg hr => ⟨hs.1, ownFrom_below (β := Unit) (Nat.le_refl _) (Nat.le_refl _) () A B row hs.2 hg hr⟩
    case hIx2 => exact fun c A B row hs hg hr => ⟨hs.1, ⟨cell_kept hs.2.1.1 hg (fun r e => (hr r e).2), ownFrom_below (β := Unit) (n₀ := w.heap.size) (w₀ := w) (Nat.le_refl _) (by omega) () A B row hs.2.1.2.1 hg hr,
      (hg.block D (Array.getElem?_eq_some_iff.1 hs.2.1.2.2).1 (fun e => by have := (hr D e.symm).1; omega)).trans hs.2.1.2.2⟩, hs.2.2⟩
    case assign2 =>
      intro r k V K hK
      gi_wp2
      exact hK
    case stop2 =>
      rintro D2 c V hD2 ⟨rfl, ⟨hc, hbV, hKD⟩, hsb⟩ hK2
      have hne : D ≠ D2 := by omega
      have hKD2 : (V.putObj D2 (.deferred none)).heap[D]? = some (.deferred (some [])) := (World.putObj_heap_other hne).trans hKD
      have hcD : ((V.putObj D2 (.deferred none)).putObj D (.deferred none)).cell? ⟨w.heap.size + 1, 0, none⟩ = some (.bool false) :=
        cell_kept (cell_kept hc (grownBy_putObj' _ D2 (.deferred none)) (fun r e => by cases e; exact ⟨_, hK2, rfl⟩)) (grownBy_putObj' _ D (.deferred none)) (fun r e => by cases e; exact ⟨_, hKD2, rfl⟩)
      have hSB := Aside0.mk hsb
      clear hsb
      gi_wp2
      refine ⟨by simp, .inl ⟨_, _, rfl, run_takeDeferred hK2, by simp, .inl ⟨_, _, rfl, run_takeDeferred hKD2, ?_⟩⟩⟩
      refine ⟨_, (by simp [results, Try.results76, go_sem, hcD]; rfl), by rw [hSB.out], (hbV.trans (belowK_b (w := W0) (by omega) _ _ _ _ (by omega) hK2 rfl rfl)).trans (belowK_b (w := W0) (by omega) _ _ _ _ hD hKD2 rfl rfl)⟩
    case done2 =>
      rintro D2 V hD2 ⟨hp2, hbV⟩ hK2
      have hSB := Aside0.mk (simpleB_yes hp hp2)
      have hbV0 := hb.trans (hbV.mono hs1)
      have hcV := (hbV0.cell (p := ⟨w.heap.size + 1, 0, none⟩) (by dsimp only; omega)).trans hc0
      have hfV := (hbV0.frozen (p := ⟨w.heap.size + 1, 0, none⟩) (by dsimp only; omega)).trans hf0
      have hne : D ≠ D2 := by omega
      have hKV := (hbV.block D hlD).trans hK
      have hK2' := (KeepsOthers.setCell V ⟨w.heap.size + 1, 0, none⟩ (.bool true)).same D2 _ hK2 rfl
      have hKV' : ((V.setCell ⟨w.heap.size + 1, 0, none⟩ (.bool true)).putObj D2 (.deferred none)).heap[D]? = some (.deferred (some [])) := (World.putObj_heap_other hne).trans ((KeepsOthers.setCell V ⟨w.heap.size + 1, 0, none⟩ (.bool true)).same D _ hKV rfl)
      have hcD : (((V.setCell ⟨w.heap.size + 1, 0, none⟩ (.bool true)).putObj D2 (.deferred none)).putObj D (.deferred none)).cell? ⟨w.heap.size + 1, 0, none⟩ = some (.bool true) :=
        cell_kept (cell_kept (World.cell?_setCell_same _ _ _ hcV) (grownBy_putObj' _ D2 (.deferred none)) (fun r e => by cases e; exact ⟨_, hK2', rfl⟩)) (grownBy_putObj' _ D (.deferred none)) (fun r e => by cases e; exact ⟨_, hKV', rfl⟩)
      have hbE : Below w.heap.size w (((V.setCell ⟨w.heap.size + 1, 0, none⟩ (.bool true)).putObj D2 (.deferred none)).putObj D (.deferred none)) :=
        (((hb0.trans (hbV0.mono (by omega))).setCell (p := ⟨w.heap.size + 1, 0, none⟩) (by dsimp only; omega) _).trans (belowK_b (w := W0) (by omega) _ _ _ _ (by omega) hK2' rfl rfl)).trans (belowK_b (w := W0) (by omega) _ _ _ _ hD hKV' rfl rfl)
      clear hp hp2
      gi_wp2
      refine ⟨by simp, .inl ⟨_, _, rfl, run_takeDeferred hK2', by simp, .inl ⟨_, _, rfl, run_takeDeferred hKV', ?_⟩⟩⟩
      exact ⟨_, (by simp [results, Try.results76, go_sem, hcD]; rfl), by rw [hSB.out], hbE⟩
    case body2 =>
      rintro r k V hk ⟨hp2, hbV⟩ hbt
      have HF := wide_round Try.prog r
      have hbV0 := hb.trans (hbV.mono hs1)
      have hRV := Aside0.mk (((HR0.out.below (hbV0.mono (by omega))).mono (show w.heap.size ≤ V.heap.size by have := hbV.size; omega)))
      have hn3 := HR.out.pos
      have hnk : (k + 1) % l.length < l.length := Nat.mod_lt _ (by omega)
      have hn2 : ((k + 1) % l.length + 1) % l.length < l.length := Nat.mod_lt _ (by omega)
      have HFO := Aside0.mk (folds_at (bs k) (bs ((k + 1) % l.length)) (bs (((k + 1) % l.length + 1) % l.length)) (at_ l k) (nxt l k) (nxt l ((k + 1) % l.length)) V (hRV.out.x k hk) (hRV.out.y k hk) (hRV.out.next k hk) (hRV.out.x _ hnk) (hRV.out.y _ hnk) (hRV.out.next _ hnk) (hRV.out.x _ hn2) (hRV.out.y _ hn2) (hRV.out.lt k hk) (hRV.out.lt _ hnk) (hRV.out.lt _ hn2))
      have hcV := (hbV0.cell (p := ⟨w.heap.size + 1, 0, none⟩) (by dsimp only; omega)).trans hc0
      have hfV := (hbV0.frozen (p := ⟨w.heap.size + 1, 0, none⟩) (by dsimp only; omega)).trans hf0
      have HBT := Aside0.mk hbV0
      cases hfo : foldAt l k
      · have HFO' := Aside0.mk (HFO.out.mono (R' := fun e w' => e = .returned (.bool false) ∧ Below V.heap.size V w') (fun e w' h => ⟨by rw [h.1]; exact congrArg (fun b => Ending.returned (.bool b)) hfo, h.2⟩))
        have HFK := Aside0.mk hfo
        clear hfo HFO hcV hfV
        gi_wp2_with ((first | refine ⟨trivial, rfl, ?_⟩ | refine ⟨rfl, ?_⟩ | skip); gi_at_call 83; refine (CallsIn.inRound r (callsIn_wide.2 HFO'.out)).mono ?_; rintro e V1 ⟨rfl, hb1⟩; have hR1 := Aside0.mk ((hRV.out.below hb1).mono hb1.size); have HB1 := Aside0.mk hb1; have hn1 := hR1.out.next k hk; have hn2' := hR1.out.next _ hnk; clear hb1)
        gi_loopg [6] (l.length - 3) (fun g v6 wr => ∃ t : Nat, t + g = l.length - 3 ∧ v6 = .pointer (some ⟨bs ((k + 2 + t) % l.length), 0, none⟩) ∧ Aside0 (∀ s, s < t → meetAt l k s = false) ∧ Aside0 (Below V1.heap.size V1 wr))
        case atStart => exact ⟨0, by omega, by first | rfl | (rw [mod_next]; rfl), ⟨fun s hs => by omega⟩, ⟨Below.refl _ _⟩⟩
        case round =>
          clear hn1 hn2'
          obtain ⟨t, ht, rfl, HD, HB⟩ := hrel
          have hRr := Aside0.mk (hR1.out.below HB.out)
          have hjl : (k + 2 + t) % l.length < l.length := Nat.mod_lt _ (by omega)
          have hjn := hRr.out.next _ hjl
          cases gk with
          | zero =>
            obtain rfl : t = l.length - 3 := by omega
            rw [mod_next, show k + 2 + (l.length - 3) + 1 = k + 1 + (l.length - 1) - 0 - 0 - 0 + 0 - 0 from by omega] at hjn
            simp only [Nat.sub_zero, Nat.add_zero] at hjn
            rw [mod_round hk (by omega)] at hjn
            have hq := run_neq_same wr ⟨bs k, 0, none⟩
            gi_wp2
            refine ⟨KeepsFrom.of_below (HB1.out.trans (HB.out.mono HB1.out.size)), (HB1.out.trans (HB.out.mono HB1.out.size)).mono hbV.size, fun i hi => ?_, hbV.trans ((HB1.out.trans (HB.out.mono HB1.out.size)).mono hbV.size)⟩
            by_cases e : i = k
            · subst e; exact ⟨HFK.out, HD.out⟩
            · exact hp2 i (by omega)
          | succ g =>
            have hml : ((k + 2 + t) % l.length + 1) % l.length < l.length := Nat.mod_lt _ (by omega)
            have hmk : ((k + 2 + t) % l.length + 1) % l.length ≠ k := by rw [mod_next, show k + 2 + t + 1 = k + 1 + (t + 2) from by omega]; exact mod_ne hk (by omega)
            have hne : bs (((k + 2 + t) % l.length + 1) % l.length) ≠ bs k := fun e => hmk (hRr.out.inj _ _ hml hk e)
            have hq := run_neq_other wr hne (hRr.out.blk _ hml) (hRr.out.blk _ hk)
            have hRm := Aside0.mk (hRr.out.mono HB.out.size)
            have hrx := Aside0.mk (fun w' (h : Below wr.heap.size wr w') => (hRm.out.below h).x k hk)
            have hry := Aside0.mk (fun w' (h : Below wr.heap.size wr w') => (hRm.out.below h).y k hk)
            have hrn := Aside0.mk (fun w' (h : Below wr.heap.size wr w') => (hRm.out.below h).next k hk)
            have hnx := Aside0.mk (fun w' (h : Below wr.heap.size wr w') => (show w'.cell? ⟨bs ((k + 1) % l.length), 0, none⟩ = some (.int .i64 (nxt l k).f0) from (hRm.out.below h).x _ hnk))
            have hny := Aside0.mk (fun w' (h : Below wr.heap.size wr w') => (show w'.cell? ⟨bs ((k + 1) % l.length), 1, none⟩ = some (.int .i64 (nxt l k).f1) from (hRm.out.below h).y _ hnk))
            have hjx := Aside0.mk (fun w' (h : Below wr.heap.size wr w') => (hRm.out.below h).x _ hjl)
            have hjy := Aside0.mk (fun w' (h : Below wr.heap.size wr w') => (hRm.out.below h).y _ hjl)
            have hjm := Aside0.mk (fun w' (h : Below wr.heap.size wr w') => (hRm.out.below h).next _ hjl)
            have hmx := Aside0.mk (fun w' (h : Below wr.heap.size wr w') => (show w'.cell? ⟨bs (((k + 2 + t) % l.length + 1) % l.length), 0, none⟩ = some (.int .i64 (nxt l ((k + 2 + t) % l.length)).f0) from (hRm.out.below h).x _ hml))
            have hmy := Aside0.mk (fun w' (h : Below wr.heap.size wr w') => (show w'.cell? ⟨bs (((k + 2 + t) % l.length + 1) % l.length), 1, none⟩ = some (.int .i64 (nxt l ((k + 2 + t) % l.length)).f1) from (hRm.out.below h).y _ hml))
            have hdj := Aside0.mk (show meetAt l k t = meetPt (at_ l k) (nxt l k) (at_ l ((k + 2 + t) % l.length)) (nxt l ((k + 2 + t) % l.length)) from rfl)
            have hj1 := Aside0.mk (show ((k + 2 + t) % l.length + 1) % l.length = (k + 2 + (t + 1)) % l.length from by rw [mod_next]; rfl)
            generalize (k + 2 + t) % l.length = j at *
            clear hne hmk
            gi_wp2
            clear hq hjn
            obtain ⟨VS, hVS⟩ : ∃ VS : List (Option Tmp × Value), [(some 52, .pointer (some ⟨bs k, 0, none⟩)), (some 53, .pointer (some ⟨bs k, 0, none⟩)), (some 54, .pointer (some ⟨bs k, 0, none⟩)), (some 55, .agg #[.int .i64 (at_ l k).f0, .int .i64 (at_ l k).f1]), (some 56, .pointer (some ⟨bs k, 0, none⟩)), (some 57, .pointer (some ⟨bs k, 0, none⟩)), (some 58, .pointer (some ⟨bs k, 2, none⟩)), (some 59, .pointer (some ⟨bs ((k + 1) % l.length), 0, none⟩)), (some 60, .pointer (some ⟨bs ((k + 1) % l.length), 0, none⟩)), (some 61, .pointer (some ⟨bs ((k + 1) % l.length), 0, none⟩)), (some 62, .agg #[.int .i64 (nxt l k).f0, .int .i64 (nxt l k).f1]), (some 63, .pointer (some ⟨bs j, 0, none⟩)), (some 64, .pointer (some ⟨bs j, 0, none⟩)), (some 65, .pointer (some ⟨bs j, 0, none⟩)), (some 66, .agg #[.int .i64 (at_ l j).f0, .int .i64 (at_ l j).f1]), (some 67, .pointer (some ⟨bs j, 0, none⟩)), (some 68, .pointer (some ⟨bs j, 0, none⟩)), (some 69, .pointer (some ⟨bs j, 2, none⟩)), (some 70, .pointer (some ⟨bs ((j + 1) % l.length), 0, none⟩)), (some 71, .pointer (some ⟨bs ((j + 1) % l.length), 0, none⟩)), (some 72, .pointer (some ⟨bs ((j + 1) % l.length), 0, none⟩)), (some 73, .agg #[.int .i64 (nxt l j).f0, .int .i64 (nxt l j).f1]), (some 74, .bool (meetPt (at_ l k) (nxt l k) (at_ l j) (nxt l j)))] = VS := ⟨_, rfl⟩
            have HN : (VS.filterMap (·.1)).Nodup := by rw [← hVS]; exact (show List.Nodup [(52 : Tmp), (53 : Tmp), (54 : Tmp), (55 : Tmp), (56 : Tmp), (57 : Tmp), (58 : Tmp), (59 : Tmp), (60 : Tmp), (61 : Tmp), (62 : Tmp), (63 : Tmp), (64 : Tmp), (65 : Tmp), (66 : Tmp), (67 : Tmp), (68 : Tmp), (69 : Tmp), (70 : Tmp), (71 : Tmp), (72 : Tmp), (73 : Tmp), (74 : Tmp)] by decide)
            refine act_name fun A0 hA0 => ?_
            have E5 : ∀ L : List Bool, (fill VS L A0).tmps[5]?.getD undef = .pointer (some ⟨bs k, 0, none⟩) := fun L => fill_old _ _ _ (by rw [← hVS]; exact (show (5 : Tmp) ∉ [(52 : Tmp), (53 : Tmp), (54 : Tmp), (55 : Tmp), (56 : Tmp), (57 : Tmp), (58 : Tmp), (59 : Tmp), (60 : Tmp), (61 : Tmp), (62 : Tmp), (63 : Tmp), (64 : Tmp), (65 : Tmp), (66 : Tmp), (67 : Tmp), (68 : Tmp), (69 : Tmp), (70 : Tmp), (71 : Tmp), (72 : Tmp), (73 : Tmp), (74 : Tmp)] by decide)) (by rw [← hA0]; rfl)
            have E6 : ∀ L : List Bool, (fill VS L A0).tmps[6]?.getD undef = .pointer (some ⟨bs j, 0, none⟩) := fun L => fill_old _ _ _ (by rw [← hVS]; exact (show (6 : Tmp) ∉ [(52 : Tmp), (53 : Tmp), (54 : Tmp), (55 : Tmp), (56 : Tmp), (57 : Tmp), (58 : Tmp), (59 : Tmp), (60 : Tmp), (61 : Tmp), (62 : Tmp), (63 : Tmp), (64 : Tmp), (65 : Tmp), (66 : Tmp), (67 : Tmp), (68 : Tmp), (69 : Tmp), (70 : Tmp), (71 : Tmp), (72 : Tmp), (73 : Tmp), (74 : Tmp)] by decide)) (by rw [← hA0]; rfl)
            have hT_ : 74 < A0.tmps.size := by rw [← hA0]; simp
            refine drawn_same (by kernel_rfl) (early_spec (by kernel_rfl)) VS (by rw [← hVS]; rfl) HN (fun w' => Below wr.heap.size wr w') ((Below.refl _ _).drew) ?_ ?_
            · intro i o v L w' ho hv hpre hS K hK
              have hii : i = 0 ∨ i = 1 ∨ i = 2 ∨ i = 3 ∨ i = 4 ∨ i = 5 ∨ i = 6 ∨ i = 7 ∨ i = 8 ∨ i = 9 ∨ i = 10 ∨ i = 11 ∨ i = 12 ∨ i = 13 ∨ i = 14 ∨ i = 15 ∨ i = 16 ∨ i = 17 ∨ i = 18 ∨ i = 19 ∨ i = 20 ∨ i = 21 ∨ i = 22 := by have hq := (Array.getElem?_eq_some_iff.1 ho).1; simp at hq; omega
              rcases hii with rfl | rfl | rfl | rfl | rfl | rfl | rfl | rfl | rfl | rfl | rfl | rfl | rfl | rfl | rfl | rfl | rfl | rfl | rfl | rfl | rfl | rfl | rfl
              · obtain rfl := Option.some.inj ho
                obtain rfl := vs_at hVS hv rfl
                have e5 := E5 L
                refine st_val HF rfl (by simp) rfl (w' := w') ?_ (hK w' hS)
                generalize fill VS L A0 = A at e5 ⊢
                simp [execOp, go_sem, i64_w, e5]
              · obtain rfl := Option.some.inj ho
                obtain rfl := vs_at hVS hv rfl
                have e52 := fill_get HN hVS hT_ (t := 52) (j := 0) rfl rfl (hpre ⟨0, .data⟩ (by simp) rfl)
                refine st_val HF rfl (by simp) rfl (w' := w') ?_ (hK w' hS)
                generalize fill VS L A0 = A at e52 ⊢
                simp [execOp, go_sem, i64_w, e52]
              · obtain rfl := Option.some.inj ho
                obtain rfl := vs_at hVS hv rfl
                have e53 := fill_get HN hVS hT_ (t := 53) (j := 1) rfl rfl (hpre ⟨1, .data⟩ (by simp) rfl)
                refine st_val HF rfl (by simp) rfl (w' := w') ?_ (hK w' hS)
                generalize fill VS L A0 = A at e53 ⊢
                simp [execOp, go_sem, i64_w, e53]
              · obtain rfl := Option.some.inj ho
                obtain rfl := vs_at hVS hv rfl
                have e54 := fill_get HN hVS hT_ (t := 54) (j := 2) rfl rfl (hpre ⟨2, .data⟩ (by simp) rfl)
                have c1 := hrx.out w' hS
                have c2 := hry.out w' hS
                refine st_val HF rfl (by simp) rfl (w' := w') ?_ (hK w' hS)
                generalize fill VS L A0 = A at e54 ⊢
                simp [execOp, go_sem, i64_w, e54, c1, c2]
              · obtain rfl := Option.some.inj ho
                obtain rfl := vs_at hVS hv rfl
                have e5 := E5 L
                refine st_val HF rfl (by simp) rfl (w' := w') ?_ (hK w' hS)
                generalize fill VS L A0 = A at e5 ⊢
                simp [execOp, go_sem, i64_w, e5]
              · obtain rfl := Option.some.inj ho
                obtain rfl := vs_at hVS hv rfl
                have e56 := fill_get HN hVS hT_ (t := 56) (j := 4) rfl rfl (hpre ⟨4, .data⟩ (by simp) rfl)
                refine st_val HF rfl (by simp) rfl (w' := w') ?_ (hK w' hS)
                generalize fill VS L A0 = A at e56 ⊢
                simp [execOp, go_sem, i64_w, e56]
              · obtain rfl := Option.some.inj ho
                obtain rfl := vs_at hVS hv rfl
                have e57 := fill_get HN hVS hT_ (t := 57) (j := 5) rfl rfl (hpre ⟨5, .data⟩ (by simp) rfl)
                refine st_val HF rfl (by simp) rfl (w' := w') ?_ (hK w' hS)
                generalize fill VS L A0 = A at e57 ⊢
                simp [execOp, go_sem, i64_w, e57]
              · obtain rfl := Option.some.inj ho
                obtain rfl := vs_at hVS hv rfl
                have e58 := fill_get HN hVS hT_ (t := 58) (j := 6) rfl rfl (hpre ⟨6, .data⟩ (by simp) rfl)
                have c1 := hrn.out w' hS
                refine st_val HF rfl (by simp) rfl (w' := w') ?_ (hK w' hS)
                generalize fill VS L A0 = A at e58 ⊢
                simp [execOp, go_sem, i64_w, e58, c1]
              · obtain rfl := Option.some.inj ho
                obtain rfl := vs_at hVS hv rfl
                have e59 := fill_get HN hVS hT_ (t := 59) (j := 7) rfl rfl (hpre ⟨7, .data⟩ (by simp) rfl)
                refine st_val HF rfl (by simp) rfl (w' := w') ?_ (hK w' hS)
                generalize fill VS L A0 = A at e59 ⊢
                simp [execOp, go_sem, i64_w, e59]
              · obtain rfl := Option.some.inj ho
                obtain rfl := vs_at hVS hv rfl
                have e60 := fill_get HN hVS hT_ (t := 60) (j := 8) rfl rfl (hpre ⟨8, .data⟩ (by simp) rfl)
                refine st_val HF rfl (by simp) rfl (w' := w') ?_ (hK w' hS)
                generalize fill VS L A0 = A at e60 ⊢
                simp [execOp, go_sem, i64_w, e60]
              · obtain rfl := Option.some.inj ho
                obtain rfl := vs_at hVS hv rfl
                have e61 := fill_get HN hVS hT_ (t := 61) (j := 9) rfl rfl (hpre ⟨9, .data⟩ (by simp) rfl)
                have c1 := hnx.out w' hS
                have c2 := hny.out w' hS
                refine st_val HF rfl (by simp) rfl (w' := w') ?_ (hK w' hS)
                generalize fill VS L A0 = A at e61 ⊢
                simp [execOp, go_sem, i64_w, e61, c1, c2]
              · obtain rfl := Option.some.inj ho
                obtain rfl := vs_at hVS hv rfl
                have e6 := E6 L
                refine st_val HF rfl (by simp) rfl (w' := w') ?_ (hK w' hS)
                generalize fill VS L A0 = A at e6 ⊢
                simp [execOp, go_sem, i64_w, e6]
              · obtain rfl := Option.some.inj ho
                obtain rfl := vs_at hVS hv rfl
                have e63 := fill_get HN hVS hT_ (t := 63) (j := 11) rfl rfl (hpre ⟨11, .data⟩ (by simp) rfl)
                refine st_val HF rfl (by simp) rfl (w' := w') ?_ (hK w' hS)
                generalize fill VS L A0 = A at e63 ⊢
                simp [execOp, go_sem, i64_w, e63]
              · obtain rfl := Option.some.inj ho
                obtain rfl := vs_at hVS hv rfl
                have e64 := fill_get HN hVS hT_ (t := 64) (j := 12) rfl rfl (hpre ⟨12, .data⟩ (by simp) rfl)
                refine st_val HF rfl (by simp) rfl (w' := w') ?_ (hK w' hS)
                generalize fill VS L A0 = A at e64 ⊢
                simp [execOp, go_sem, i64_w, e64]
              · obtain rfl := Option.some.inj ho
                obtain rfl := vs_at hVS hv rfl
                have e65 := fill_get HN hVS hT_ (t := 65) (j := 13) rfl rfl (hpre ⟨13, .data⟩ (by simp) rfl)
                have c1 := hjx.out w' hS
                have c2 := hjy.out w' hS
                refine st_val HF rfl (by simp) rfl (w' := w') ?_ (hK w' hS)
                generalize fill VS L A0 = A at e65 ⊢
                simp [execOp, go_sem, i64_w, e65, c1, c2]
              · obtain rfl := Option.some.inj ho
                obtain rfl := vs_at hVS hv rfl
                have e6 := E6 L
                refine st_val HF rfl (by simp) rfl (w' := w') ?_ (hK w' hS)
                generalize fill VS L A0 = A at e6 ⊢
                simp [execOp, go_sem, i64_w, e6]
              · obtain rfl := Option.some.inj ho
                obtain rfl := vs_at hVS hv rfl
                have e67 := fill_get HN hVS hT_ (t := 67) (j := 15) rfl rfl (hpre ⟨15, .data⟩ (by simp) rfl)
                refine st_val HF rfl (by simp) rfl (w' := w') ?_ (hK w' hS)
                generalize fill VS L A0 = A at e67 ⊢
                simp [execOp, go_sem, i64_w, e67]
              · obtain rfl := Option.some.inj ho
                obtain rfl := vs_at hVS hv rfl
                have e68 := fill_get HN hVS hT_ (t := 68) (j := 16) rfl rfl (hpre ⟨16, .data⟩ (by simp) rfl)
                refine st_val HF rfl (by simp) rfl (w' := w') ?_ (hK w' hS)
                generalize fill VS L A0 = A at e68 ⊢
                simp [execOp, go_sem, i64_w, e68]
              · obtain rfl := Option.some.inj ho
                obtain rfl := vs_at hVS hv rfl
                have e69 := fill_get HN hVS hT_ (t := 69) (j := 17) rfl rfl (hpre ⟨17, .data⟩ (by simp) rfl)
                have c1 := hjm.out w' hS
                refine st_val HF rfl (by simp) rfl (w' := w') ?_ (hK w' hS)
                generalize fill VS L A0 = A at e69 ⊢
                simp [execOp, go_sem, i64_w, e69, c1]
              · obtain rfl := Option.some.inj ho
                obtain rfl := vs_at hVS hv rfl
                have e70 := fill_get HN hVS hT_ (t := 70) (j := 18) rfl rfl (hpre ⟨18, .data⟩ (by simp) rfl)
                refine st_val HF rfl (by simp) rfl (w' := w') ?_ (hK w' hS)
                generalize fill VS L A0 = A at e70 ⊢
                simp [execOp, go_sem, i64_w, e70]
              · obtain rfl := Option.some.inj ho
                obtain rfl := vs_at hVS hv rfl
                have e71 := fill_get HN hVS hT_ (t := 71) (j := 19) rfl rfl (hpre ⟨19, .data⟩ (by simp) rfl)
                refine st_val HF rfl (by simp) rfl (w' := w') ?_ (hK w' hS)
                generalize fill VS L A0 = A at e71 ⊢
                simp [execOp, go_sem, i64_w, e71]
              · obtain rfl := Option.some.inj ho
                obtain rfl := vs_at hVS hv rfl
                have e72 := fill_get HN hVS hT_ (t := 72) (j := 20) rfl rfl (hpre ⟨20, .data⟩ (by simp) rfl)
                have c1 := hmx.out w' hS
                have c2 := hmy.out w' hS
                refine st_val HF rfl (by simp) rfl (w' := w') ?_ (hK w' hS)
                generalize fill VS L A0 = A at e72 ⊢
                simp [execOp, go_sem, i64_w, e72, c1, c2]
              · obtain rfl := Option.some.inj ho
                obtain rfl := vs_at hVS hv rfl
                have e55 := fill_get HN hVS hT_ (t := 55) (j := 3) rfl rfl (hpre ⟨3, .data⟩ (by simp) rfl)
                have e62 := fill_get HN hVS hT_ (t := 62) (j := 10) rfl rfl (hpre ⟨10, .data⟩ (by simp) rfl)
                have e66 := fill_get HN hVS hT_ (t := 66) (j := 14) rfl rfl (hpre ⟨14, .data⟩ (by simp) rfl)
                have e73 := fill_get HN hVS hT_ (t := 73) (j := 21) rfl rfl (hpre ⟨21, .data⟩ (by simp) rfl)
                refine st_call HF rfl (by simp) rfl (w := w') (f := 84) (args := #[.agg #[.int .i64 (at_ l k).f0, .int .i64 (at_ l k).f1], .agg #[.int .i64 (nxt l k).f0, .int .i64 (nxt l k).f1], .agg #[.int .i64 (at_ l j).f0, .int .i64 (at_ l j).f1], .agg #[.int .i64 (nxt l j).f0, .int .i64 (nxt l j).f1]]) (v := .bool (meetPt (at_ l k) (nxt l k) (at_ l j) (nxt l j))) ?_ ?_
                · generalize fill VS L A0 = A at e55 e62 e66 e73 ⊢
                  simp [execOp, resolve, go_sem, e55, e62, e66, e73]
                · refine (impl_sidesMeet.calls 2 _ _ _ _ _ _ _ _ _ w' (meetPt_f (at_ l k) (nxt l k) (at_ l j) (nxt l j))).mono ?_; rintro e w2 ⟨rfl, hb2⟩; exact ⟨rfl, hK w2 (hS.trans (hb2.mono hS.size))⟩
            · intro w' hS'
              rw [← hVS, ← hA0]
              simp only [List.size_toArray, List.length_cons, List.length_nil, Nat.reduceAdd, List.replicate, fill, if_true, Act.put, List.setIfInBounds_toArray, List.set_cons_succ, List.set_cons_zero]
              clear HN E5 E6 hVS hA0 hT_
              have HS := Aside0.mk (HB.out.trans (hS'.mono HB.out.size))
              have hjn := hjm.out w' hS'
              have HV := Aside0.mk (HB1.out.trans (HS.out.mono HB1.out.size))
              have hcW := ((HBT.out.trans (HV.out.mono HBT.out.size)).cell (p := ⟨w.heap.size + 1, 0, none⟩) (by dsimp only; omega)).trans hc0
              have hfW := ((HBT.out.trans (HV.out.mono HBT.out.size)).frozen (p := ⟨w.heap.size + 1, 0, none⟩) (by dsimp only; omega)).trans hf0
              clear hS'
              cases hd : meetPt (at_ l k) (nxt l k) (at_ l j) (nxt l j)
              · have hdt := Aside0.mk (hdj.out.trans hd)
                clear hd
                gi_wp2
                gi_roundg g
                case measure => omega
                case rel => exact ⟨t + 1, by omega, by rw [hj1.out], ⟨fun s hs => by
                  by_cases e : s = t
                  · subst e; exact hdt.out
                  · exact HD.out s (by omega)⟩, HS⟩
              · have hdt := Aside0.mk (simpleB_meet hk (show t < l.length - 3 by omega) (hdj.out.trans hd))
                clear hd
                gi_wp2
                refine ⟨(KeepsFrom.of_below HV.out).trans ((KeepsOthers.setCell _ _ _).from _), rfl, ⟨World.cell?_setCell_same _ _ _ hcW, (hb0.trans ((HBT.out.trans (HV.out.mono HBT.out.size)).mono (by omega))).setCell (p := ⟨w.heap.size + 1, 0, none⟩) (by dsimp only; omega) _, ?_⟩, hdt.out⟩
                exact (KeepsOthers.setCell _ _ _).same D _ ((HV.out.block D (by have := hbV.size; omega)).trans ((hbV.block D hlD).trans hK)) rfl
      · have HFO' := Aside0.mk (HFO.out.mono (R' := fun e w' => e = .returned (.bool true) ∧ Below V.heap.size V w') (fun e w' h => ⟨by rw [h.1]; exact congrArg (fun b => Ending.returned (.bool b)) hfo, h.2⟩))
        have hSB := Aside0.mk (simpleB_fold hk hfo)
        clear hfo HFO hcV hfV
        gi_wp2_with ((first | refine ⟨trivial, rfl, ?_⟩ | refine ⟨rfl, ?_⟩ | skip); gi_at_call 83; refine (CallsIn.inRound r (callsIn_wide.2 HFO'.out)).mono ?_; rintro e V1 ⟨rfl, hb1⟩; have HV := Aside0.mk hb1; have hcW := ((HBT.out.trans (hb1.mono HBT.out.size)).cell (p := ⟨w.heap.size + 1, 0, none⟩) (by dsimp only; omega)).trans hc0; have hfW := ((HBT.out.trans (hb1.mono HBT.out.size)).frozen (p := ⟨w.heap.size + 1, 0, none⟩) (by dsimp only; omega)).trans hf0; clear hb1)
        refine ⟨(KeepsFrom.of_below HV.out).trans ((KeepsOthers.setCell _ _ _).from _), rfl, ⟨World.cell?_setCell_same _ _ _ hcW, (hb0.trans ((HBT.out.trans (HV.out.mono HBT.out.size)).mono (by omega))).setCell (p := ⟨w.heap.size + 1, 0, none⟩) (by dsimp only; omega) _, ?_⟩, hSB.out⟩
        exact (KeepsOthers.setCell _ _ _).same D _ ((HV.out.block D (by have := hbV.size; omega)).trans ((hbV.block D hlD).trans hK)) rfl

end Go.Proofs.Ytgdhgncdpmalcaa.Ring
namespace Go.Proofs.Ytgdhgncdpmalcaa.Ring
open Go.RowKit Go.Shelf Go.Proofs.Ytgdhgncdpmalcaa.Q Go.Proofs.Ytgdhgncdpmalcaa.Drawn Go.Proofs.YtgdhgncdpmalcaaW.PrintWords Go.Proofs.YtgdhgncdpmalcaaW.PrintLast Go.Proofs.YtgdhgncdpmalcaaW.PrintMore
set_option linter.unusedVariables false
set_option linter.unusedSimpArgs false
attribute [local go_sem] Oper.semAt_some

def okS (l : List Pt) : Bool := Pure.cvB l && simpleB l
def okP (l : List Pt) : Bool := okS l && decide (0 < areaS l l.length)
theorem simple_b (top : Nat) (bs : Nat → Nat) (l : List Pt) (w : World) (hR : Ring w top bs l) (htop : top ≤ w.heap.size) (b : Bool) (h : simpleB l = b) :
    Calls Try.prog 76 #[.agg #[.pointer (some ⟨bs 0, 0, none⟩), .int .i64 l.length]] w fun e w' => e = .returned (.bool b) ∧ Below w.heap.size w w' := by
  rw [← h]; exact simple_calls top bs l w hR htop
set_option maxRecDepth 100000 in
set_option maxHeartbeats 4000000 in
theorem simple_isnt_a (A0 : Option Addr) (c0 : Nat) (l0 : List Pt) (w : World) (hr0 : Kd.C k32 w A0 l0.length l0) (hc0 : l0.length ≤ c0) (h : Pure.cvB l0 = false) :
    Calls Try.prog 49 #[.slice A0 l0.length c0] w (NoRing w) := by
  have HR0 := Aside0.mk hr0
  have HC0 := Aside0.mk hc0
  have HX := Aside0.mk h
  clear hr0 hc0 h
  go_enter Try.func49, Try.ntmps49
  go_wp2_with (go_at_call 43; refine (outline_isnt A0 c0 l0 _ ?s1 HC0.out HX.out).mono ?_; (case s1 => exact Kd.C_below HR0.out ((Below.refl _ _).alloc (Nat.le_refl _) _)); rintro e w1 ⟨rfl, hb⟩; have hz : w.heap.size < w1.heap.size := (by have := hb.size; simp at this; omega); have hz1 : ¬ w1.heap.size = w.heap.size := (by omega); have hz2 : ¬ w.heap.size = w1.heap.size := (by omega); have HB := Aside0.mk (((Below.refl w.heap.size w).alloc (Nat.le_refl _) _).trans (hb.mono (by simp))); have hb' := Below.mono hb (B' := w.heap.size + 1) (by simp); have z0 := (at_new hb' 0).1; have z1 := (at_new hb' 1).1; have y0 := (at_new hb' 0).2; have y1 := (at_new hb' 1).2; simp [go_sem] at z0 z1 y0 y1; clear hb hb')
  refine bodyPost_ret (v := .tuple #[.agg #[.pointer none, .int .i64 0], .bool false]) (by simp [results, Try.results49, go_sem, z0, z1, hz, hz1, hz2]) rfl ⟨rfl, ?_⟩
  exact ((HB.out.setCell (p := ⟨w.heap.size, 0, none⟩) (Nat.le_refl _) _).setCell (p := ⟨w.heap.size, 1, none⟩) (Nat.le_refl _) _).alloc (by simp; omega) _
set_option maxRecDepth 100000 in
set_option maxHeartbeats 4000000 in
theorem simple_isnt_b (A0 : Option Addr) (c0 : Nat) (l0 : List Pt) (w : World) (hr0 : Kd.C k32 w A0 l0.length l0) (hc0 : l0.length ≤ c0) (h : Pure.cvB l0 = true) (hn : simpleB l0 = false) :
    Calls Try.prog 49 #[.slice A0 l0.length c0] w (NoRing w) := by
  have HR0 := Aside0.mk hr0
  have HC0 := Aside0.mk hc0
  have HX := Aside0.mk h
  have HN := Aside0.mk hn
  clear hr0 hc0 h hn
  go_enter Try.func49, Try.ntmps49
  go_wp2_with (first | (go_at_call 43; refine (outline_is A0 c0 l0 _ ?s1 HC0.out HX.out).mono ?_; (case s1 => exact Kd.C_below HR0.out ((Below.refl _ _).alloc (Nat.le_refl _) _)); rintro e w1 ⟨bs, rfl, hR, hlo0, hb⟩; have HLO := Aside0.mk (fun j hj => (show w.heap.size + 1 ≤ bs j from by have := hlo0 j hj; simpa using this)); clear hlo0; have hz : w.heap.size < w1.heap.size := (by have := hb.size; simp at this; omega); have hz1 : ¬ w1.heap.size = w.heap.size := (by omega); have hz2 : ¬ w.heap.size = w1.heap.size := (by omega); have HB := Aside0.mk (((Below.refl w.heap.size w).alloc (Nat.le_refl _) _).trans (hb.mono (by simp))); have hb' := Below.mono hb (B' := w.heap.size + 1) (by simp); have z0 := (at_new hb' 0).1; have z1 := (at_new hb' 1).1; have y0 := (at_new hb' 0).2; have y1 := (at_new hb' 1).2; simp [go_sem] at z0 z1 y0 y1; have HR := Aside0.mk hR; clear hb hb' hR) | (go_at_call 76; refine (simple_b w1.heap.size bs l0 _ (HR.out.below ((Below.refl _ _).alloc (Nat.le_refl _) _)) (by simp) false HN.out).mono ?_; rintro e w2 ⟨rfl, hb2⟩; have hs2 : w1.heap.size + 1 ≤ w2.heap.size := (by have := hb2.size; simp at this; omega); have HB2 := Aside0.mk ((HB.out.alloc (by omega) (.cells #[.pointer (some ⟨bs 0, 0, none⟩), .int .i64 l0.length] 54)).trans (hb2.mono (by simp; omega))); have hb1 : Below (w1.heap.size + 1) (w1.alloc (.cells #[.pointer (some ⟨bs 0, 0, none⟩), .int .i64 l0.length] 54)) w2 := hb2.mono (by simp); have q0 := ((((Below.refl w1.heap.size w1).alloc (Nat.le_refl _) _).trans (hb1.mono (by omega))).cell (p := ⟨w.heap.size, 0, none⟩) hz).trans z0; have q1 := ((((Below.refl w1.heap.size w1).alloc (Nat.le_refl _) _).trans (hb1.mono (by omega))).cell (p := ⟨w.heap.size, 1, none⟩) hz).trans z1; have x0 := ((((Below.refl w1.heap.size w1).alloc (Nat.le_refl _) _).trans (hb1.mono (by omega))).frozen (p := ⟨w.heap.size, 0, none⟩) hz).trans y0; have x1 := ((((Below.refl w1.heap.size w1).alloc (Nat.le_refl _) _).trans (hb1.mono (by omega))).frozen (p := ⟨w.heap.size, 1, none⟩) hz).trans y1; have v0 := (at_new hb1 0).1; have v1 := (at_new hb1 1).1; simp at v0 v1; have HR2 := Aside0.mk (((HR.out.below ((Below.refl _ _).alloc (Nat.le_refl _) _)).below (hb1.mono (by omega)) |>.mono (show w1.heap.size ≤ w2.heap.size by omega))); clear hb2 hb1))
  refine bodyPost_ret (v := .tuple #[.agg #[.pointer none, .int .i64 0], .bool false]) (by simp [results, Try.results49, go_sem, q0, q1, hz, hz1, hz2]) rfl ⟨rfl, ?_⟩
  exact (HB2.out.setCell (p := ⟨w.heap.size, 0, none⟩) (Nat.le_refl _) _).setCell (p := ⟨w.heap.size, 1, none⟩) (Nat.le_refl _) _
set_option maxRecDepth 100000 in
set_option maxHeartbeats 4000000 in
theorem simple_is (A0 : Option Addr) (c0 : Nat) (l0 : List Pt) (w : World) (hr0 : Kd.C k32 w A0 l0.length l0) (hc0 : l0.length ≤ c0) (h : Pure.cvB l0 = true) (hn : simpleB l0 = true) :
    Calls Try.prog 49 #[.slice A0 l0.length c0] w (IsRing w l0) := by
  have HR0 := Aside0.mk hr0
  have HC0 := Aside0.mk hc0
  have HX := Aside0.mk h
  have HN := Aside0.mk hn
  clear hr0 hc0 h hn
  go_enter Try.func49, Try.ntmps49
  go_wp2_with (first | (go_at_call 43; refine (outline_is A0 c0 l0 _ ?s1 HC0.out HX.out).mono ?_; (case s1 => exact Kd.C_below HR0.out ((Below.refl _ _).alloc (Nat.le_refl _) _)); rintro e w1 ⟨bs, rfl, hR, hlo0, hb⟩; have HLO := Aside0.mk (fun j hj => (show w.heap.size + 1 ≤ bs j from by have := hlo0 j hj; simpa using this)); clear hlo0; have hz : w.heap.size < w1.heap.size := (by have := hb.size; simp at this; omega); have hz1 : ¬ w1.heap.size = w.heap.size := (by omega); have hz2 : ¬ w.heap.size = w1.heap.size := (by omega); have HB := Aside0.mk (((Below.refl w.heap.size w).alloc (Nat.le_refl _) _).trans (hb.mono (by simp))); have hb' := Below.mono hb (B' := w.heap.size + 1) (by simp); have z0 := (at_new hb' 0).1; have z1 := (at_new hb' 1).1; have y0 := (at_new hb' 0).2; have y1 := (at_new hb' 1).2; simp [go_sem] at z0 z1 y0 y1; have HR := Aside0.mk hR; clear hb hb' hR) | (go_at_call 76; refine (simple_b w1.heap.size bs l0 _ (HR.out.below ((Below.refl _ _).alloc (Nat.le_refl _) _)) (by simp) true HN.out).mono ?_; rintro e w2 ⟨rfl, hb2⟩; have hs2 : w1.heap.size + 1 ≤ w2.heap.size := (by have := hb2.size; simp at this; omega); have HB2 := Aside0.mk ((HB.out.alloc (by omega) (.cells #[.pointer (some ⟨bs 0, 0, none⟩), .int .i64 l0.length] 54)).trans (hb2.mono (by simp; omega))); have hb1 : Below (w1.heap.size + 1) (w1.alloc (.cells #[.pointer (some ⟨bs 0, 0, none⟩), .int .i64 l0.length] 54)) w2 := hb2.mono (by simp); have q0 := ((((Below.refl w1.heap.size w1).alloc (Nat.le_refl _) _).trans (hb1.mono (by omega))).cell (p := ⟨w.heap.size, 0, none⟩) hz).trans z0; have q1 := ((((Below.refl w1.heap.size w1).alloc (Nat.le_refl _) _).trans (hb1.mono (by omega))).cell (p := ⟨w.heap.size, 1, none⟩) hz).trans z1; have x0 := ((((Below.refl w1.heap.size w1).alloc (Nat.le_refl _) _).trans (hb1.mono (by omega))).frozen (p := ⟨w.heap.size, 0, none⟩) hz).trans y0; have x1 := ((((Below.refl w1.heap.size w1).alloc (Nat.le_refl _) _).trans (hb1.mono (by omega))).frozen (p := ⟨w.heap.size, 1, none⟩) hz).trans y1; have v0 := (at_new hb1 0).1; have v1 := (at_new hb1 1).1; simp at v0 v1; have HR2 := Aside0.mk (((HR.out.below ((Below.refl _ _).alloc (Nat.le_refl _) _)).below (hb1.mono (by omega)) |>.mono (show w1.heap.size ≤ w2.heap.size by omega))); clear hb2 hb1))
  refine bodyPost_ret (v := .tuple #[.agg #[.pointer (some ⟨bs 0, 0, none⟩), .int .i64 l0.length], .bool true]) (by simp [results, Try.results49, go_sem, q0, q1, hz, hz1, hz2]) rfl ⟨bs, rfl, ?_, fun j hj => by have := HLO.out j hj; omega, ?_⟩
  · exact ((HR2.out.setCell (p := ⟨w.heap.size, 0, none⟩) (fun j hj => by have := HLO.out j hj; dsimp only; omega) _).setCell (p := ⟨w.heap.size, 1, none⟩) (fun j hj => by have := HLO.out j hj; dsimp only; omega) _).mono (by simp)
  · exact (HB2.out.setCell (p := ⟨w.heap.size, 0, none⟩) (Nat.le_refl _) _).setCell (p := ⟨w.heap.size, 1, none⟩) (Nat.le_refl _) _

end Go.Proofs.Ytgdhgncdpmalcaa.Ring
namespace Go.Proofs.Ytgdhgncdpmalcaa.Ring
open Go.RowKit Go.Shelf Go.Proofs.Ytgdhgncdpmalcaa.Q Go.Proofs.Ytgdhgncdpmalcaa.Drawn Go.Proofs.YtgdhgncdpmalcaaW.PrintWords Go.Proofs.YtgdhgncdpmalcaaW.PrintLast Go.Proofs.YtgdhgncdpmalcaaW.PrintMore
set_option linter.unusedVariables false
set_option linter.unusedSimpArgs false
attribute [local go_sem] Oper.semAt_some
theorem simple_isnt (A0 : Option Addr) (c0 : Nat) (l0 : List Pt) (w : World) (hr0 : Kd.C k32 w A0 l0.length l0) (hc0 : l0.length ≤ c0) (h : okS l0 = false) :
    Calls Try.prog 49 #[.slice A0 l0.length c0] w (NoRing w) := by
  cases hc : Pure.cvB l0
  · exact simple_isnt_a A0 c0 l0 w hr0 hc0 hc
  · exact simple_isnt_b A0 c0 l0 w hr0 hc0 hc (by unfold okS at h; rw [hc, Bool.true_and] at h; exact h)
theorem simple_yes (A0 : Option Addr) (c0 : Nat) (l0 : List Pt) (w : World) (hr0 : Kd.C k32 w A0 l0.length l0) (hc0 : l0.length ≤ c0) (h : okS l0 = true) :
    Calls Try.prog 49 #[.slice A0 l0.length c0] w (IsRing w l0) := by
  unfold okS at h
  rw [Bool.and_eq_true] at h
  exact simple_is A0 c0 l0 w hr0 hc0 h.1 h.2
set_option maxRecDepth 100000 in
set_option maxHeartbeats 4000000 in
theorem polyValid_no (A0 : Option Addr) (c0 : Nat) (l0 : List Pt) (w : World) (hr0 : Kd.C k32 w A0 l0.length l0) (hc0 : l0.length ≤ c0) (h : okS l0 = false) :
    Calls Try.prog 18 #[.slice A0 l0.length c0] w fun e w' => e = .returned (.bool false) ∧ Below w.heap.size w w' := by
  have HR0 := Aside0.mk hr0
  have HC0 := Aside0.mk hc0
  have HX := Aside0.mk h
  clear hr0 hc0 h
  go_enter Try.func18, Try.ntmps18
  go_wp2_with (go_at_call 49; refine (simple_isnt A0 c0 l0 _ ?s1 HC0.out HX.out).mono ?_; (case s1 => exact Kd.C_below HR0.out (by first | exact Below.refl _ _ | exact (Below.refl _ _).alloc (Nat.le_refl _) _)); rintro e w1 ⟨rfl, hb⟩; have HB := Aside0.mk ((Below.refl w.heap.size w).trans hb); clear hb)
  go_ret
  exact ⟨rfl, HB.out.alloc HB.out.size _⟩

set_option maxRecDepth 100000 in
set_option maxHeartbeats 4000000 in
theorem polyValid_yes (A0 : Option Addr) (c0 : Nat) (l0 : List Pt) (w : World) (hr0 : Kd.C k32 w A0 l0.length l0) (hc0 : l0.length ≤ c0) (h : okS l0 = true) :
    Calls Try.prog 18 #[.slice A0 l0.length c0] w fun e w' => e = .returned (.bool true) ∧ Below w.heap.size w w' := by
  have HR0 := Aside0.mk hr0
  have HC0 := Aside0.mk hc0
  have HX := Aside0.mk h
  clear hr0 hc0 h
  go_enter Try.func18, Try.ntmps18
  go_wp2_with (go_at_call 49; refine (simple_yes A0 c0 l0 _ ?s1 HC0.out HX.out).mono ?_; (case s1 => exact Kd.C_below HR0.out (by first | exact Below.refl _ _ | exact (Below.refl _ _).alloc (Nat.le_refl _) _)); rintro e w1 ⟨bs, rfl, hR, hlo0, hb⟩; have HR := Aside0.mk hR; have HB := Aside0.mk ((Below.refl w.heap.size w).trans hb); clear hb hR hlo0)
  go_ret
  exact ⟨rfl, HB.out.alloc HB.out.size _⟩

end Go.Proofs.Ytgdhgncdpmalcaa.Ring
namespace Go.Proofs.Ytgdhgncdpmalcaa.Q
open Go.RowKit Go.Proofs.YtgdhgncdpmalcaaW.PrintWords Go.Proofs.YtgdhgncdpmalcaaW.PrintLast Go.Proofs.YtgdhgncdpmalcaaW.PrintMore
attribute [local go_sem] max2_int min2_int max_two min_two max_three min_three max_four min_four   -- for this text's walks alone
set_option linter.unusedVariables false
set_option linter.unusedSimpArgs false

/-! ### impl_PolyValid: function 18 -/
def impl_PolyValid.f (l0 : List (S32)) : Option (Bool) := if Go.Proofs.Ytgdhgncdpmalcaa.Ring.okS l0 then some true else some false
theorem impl_PolyValid.calls (A0 : Option Addr) (c0 : Nat) (l0 : List (S32)) (r : Bool) (w : World) (hr0 : Kd.C k32 w A0 l0.length l0) (hc0 : l0.length ≤ c0) (h : impl_PolyValid.f l0 = some r) :
    Calls Try.prog 18 #[.slice A0 l0.length c0] w fun e w' => e = .returned (.bool r) ∧ Below w.heap.size w w' := by
  unfold impl_PolyValid.f at h
  by_cases c : Go.Proofs.Ytgdhgncdpmalcaa.Ring.okS l0 = true
  · rw [if_pos c] at h
    obtain rfl := Option.some.inj h
    exact Go.Proofs.Ytgdhgncdpmalcaa.Ring.polyValid_yes A0 c0 l0 w hr0 hc0 c
  · rw [if_neg c] at h
    obtain rfl := Option.some.inj h
    exact Go.Proofs.Ytgdhgncdpmalcaa.Ring.polyValid_no A0 c0 l0 w hr0 hc0 (Bool.eq_false_iff.2 c)

end Go.Proofs.Ytgdhgncdpmalcaa.Q
namespace Go.Proofs.Ytgdhgncdpmalcaa.Q
open Go.RowKit Go.Proofs.YtgdhgncdpmalcaaW.PrintWords Go.Proofs.YtgdhgncdpmalcaaW.PrintLast Go.Proofs.YtgdhgncdpmalcaaW.PrintMore
attribute [local go_sem] max2_int min2_int max_two min_two max_three min_three max_four min_four   -- for this text's walks alone
set_option linter.unusedVariables false
set_option linter.unusedSimpArgs false

/-- A state of type 81 at block g of W; what its slices lead to came in by w0. -/
def IsS81 (w0 W : World) (g : Nat) (f0 : List Int) (f1 : Int) : Prop := ∃ A0 c0, W.heap[g]? = some (.cells #[.slice A0 f0.length c0, .int .i64 f1] 81 (0, 0)) ∧ w0.heap.size ≤ g ∧ Kd.C (Kd.int .u8) w0 A0 f0.length f0
theorem IsS81.grown {w0 W : World} {g : Nat} {f0 : List Int} {f1 : Int} {W1 : World} {row : Option Nat} (h : IsS81 w0 W g f0 f1) (hw : W.grownBy W1 row) (hne : some g ≠ row) : IsS81 w0 W1 g f0 f1 := by
  obtain ⟨A0, c0, hb, hg, hr0⟩ := h
  exact ⟨A0, c0, blk_grown hb hw hne, hg, hr0⟩
theorem IsS81.below {w0 W : World} {g : Nat} {f0 : List Int} {f1 : Int} {W1 : World} (h : IsS81 w0 W g f0 f1) (hw : Below W.heap.size W W1) : IsS81 w0 W1 g f0 f1 := h.grown (grown_of_below hw none) (by simp)
theorem IsS81.alloc {w0 W : World} {g : Nat} {f0 : List Int} {f1 : Int} (h : IsS81 w0 W g f0 f1) (o : Obj) : IsS81 w0 (W.alloc o) g f0 f1 := h.below (below_alloc (Below.refl _ _) o)
theorem IsS81.drewN {w0 W : World} {g : Nat} {f0 : List Int} {f1 : Int} (h : IsS81 w0 W g f0 f1) (m : Nat) : IsS81 w0 (W.drewN m) g f0 f1 := h
theorem IsS81.drew {w0 W : World} {g : Nat} {f0 : List Int} {f1 : Int} (h : IsS81 w0 W g f0 f1) : IsS81 w0 W.drew g f0 f1 := h
theorem IsS81.apart {w0 W : World} {g : Nat} {f0 : List Int} {f1 : Int} {α : Type} {d : Kd α} {e : Nat} {base : Nat} {ok : Nat → Prop} {v : Value} {xs : List α} (h : IsS81 w0 W g f0 f1) (ho : d.R e W base ok v xs) (ht : ∀ q, q ∈ e :: d.E → q ≠ 81) : d.R e W base (fun k => ok k ∧ k ≠ g) v xs := by
  obtain ⟨A0, c0, hb, hg, hr0⟩ := h
  exact Kd.R_types ho hb ht
theorem IsS81.own_ne {w0 W : World} {g : Nat} {f0 : List Int} {f1 : Int} {α : Type} {d : Kd α} {e : Nat} {base : Nat} {ok : Nat → Prop} {v : Value} {xs : List α} (h : IsS81 w0 W g f0 f1) (ho : d.R e W base ok v xs) (ht : e ≠ 81) : some g ≠ v.ownBlock := by
  obtain ⟨A0, c0, hb, hg, hr0⟩ := h
  exact Kd.R_ne ho hb ht
theorem IsS81.own_neQ {w0 W : World} {g : Nat} {f0 : List Int} {f1 : Int} {α : Type} {d : Kd α} {e : Nat} {base : Nat} {ok : Nat → Prop} {v : Value} {xs : List α} (h : IsS81 w0 W g f0 f1) (ho : d.Q e W base ok v xs) (ht : e ≠ 81) : some g ≠ v.ownBlock := by
  obtain ⟨A0, c0, hb, hg, hr0⟩ := h
  exact Kd.Q_ne ho hb ht
theorem IsS81.lt {w0 W : World} {g : Nat} {f0 : List Int} {f1 : Int} (h : IsS81 w0 W g f0 f1) : g < W.heap.size := by
  obtain ⟨A0, c0, hb, hg, hr0⟩ := h
  exact blk_lt hb
theorem IsS81.ge {w0 W : World} {g : Nat} {f0 : List Int} {f1 : Int} (h : IsS81 w0 W g f0 f1) : w0.heap.size ≤ g := by
  obtain ⟨A0, c0, hb, hg, hr0⟩ := h
  exact hg
theorem IsS81.far {w0 W : World} {g : Nat} {f0 : List Int} {f1 : Int} {p : Addr} (h : IsS81 w0 W g f0 f1) (hne : g ≠ p.block) (u : Value) : IsS81 w0 (W.setCell p u) g f0 f1 := by
  obtain ⟨A0, c0, hb, hg, hr0⟩ := h
  exact ⟨A0, c0, blk_far hb hne u, hg, hr0⟩
theorem cellS81_0 {W : World} {g : Nat} {A0 : Option Addr} {c0 : Nat} {f0 : List Int} {f1 : Int} (h : W.heap[g]? = some (.cells #[.slice A0 f0.length c0, .int .i64 f1] 81 (0, 0))) : W.cell? ⟨g, 0, none⟩ = some (.slice A0 f0.length c0) := (blk_cell h 0).trans rfl
theorem cellS81_1 {W : World} {g : Nat} {A0 : Option Addr} {c0 : Nat} {f0 : List Int} {f1 : Int} (h : W.heap[g]? = some (.cells #[.slice A0 f0.length c0, .int .i64 f1] 81 (0, 0))) : W.cell? ⟨g, 1, none⟩ = some (.int .i64 f1) := (blk_cell h 1).trans rfl
theorem IsS81.set_1 {w0 W : World} {g : Nat} {f0 : List Int} {f1 : Int} (h : IsS81 w0 W g f0 f1) (x : Int) : IsS81 w0 (W.setCell ⟨g, 1, none⟩ (.int .i64 x)) g f0 x := by
  obtain ⟨A0, c0, hb, hg, hr0⟩ := h
  exact ⟨A0, c0, by simpa using blk_set hb 1 (.int .i64 x), hg, hr0⟩
/-! ### spec_l6Rd_pick: function 48 -/
def spec_l6Rd_pick.j0 : Nat → Int → Bool → List Int → Int → Option (Int × Int)
  | 0, _, _, _, _ => none
  | k + 1, x1, x24, x1000, x1001 => if x24 = true then (some (0, x1001)) else (if (wrap64 (x1001 - 1)) < (x1000.length : Int) then (if 0 ≤ (wrap64 (x1001 - 1)) then (if x1 = 0 then (none) else (some (Int.tmod (wrap64 (rd x1000 (wrap64 (x1001 - 1)))) x1, x1001))) else (none)) else (if (x1000.length : Int) = 0 then (none) else (if 0 ≤ (Int.tmod (wrap64 (x1001 - 1)) (x1000.length : Int)) then (if (Int.tmod (wrap64 (x1001 - 1)) (x1000.length : Int)) < (x1000.length : Int) then (if 0 ≤ (Int.tmod (wrap64 ((wrap64 ((wrap64 (x1001 - 1)) * 7)) + 3)) (x1000.length : Int)) then (if (Int.tmod (wrap64 ((wrap64 ((wrap64 (x1001 - 1)) * 7)) + 3)) (x1000.length : Int)) < (x1000.length : Int) then (if x1 = 0 then (none) else (some (Int.tmod (Go.bits .xor .i64 (wrap64 ((wrap64 ((wrap64 ((wrap64 ((wrap64 (rd x1000 (Int.tmod (wrap64 (x1001 - 1)) (x1000.length : Int)))) * 131)) + (wrap64 ((wrap64 (rd x1000 (Int.tmod (wrap64 ((wrap64 ((wrap64 (x1001 - 1)) * 7)) + 3)) (x1000.length : Int)))) * 1117)))) + (wrap64 ((wrap64 (x1001 - 1)) * 29)))) + (wrap64 ((wrap64 (Int.tdiv (wrap64 (x1001 - 1)) (x1000.length : Int))) * 53)))) (wrap64 (Int.tdiv (wrap64 ((wrap64 ((wrap64 ((wrap64 ((wrap64 (rd x1000 (Int.tmod (wrap64 (x1001 - 1)) (x1000.length : Int)))) * 131)) + (wrap64 ((wrap64 (rd x1000 (Int.tmod (wrap64 ((wrap64 ((wrap64 (x1001 - 1)) * 7)) + 3)) (x1000.length : Int)))) * 1117)))) + (wrap64 ((wrap64 (x1001 - 1)) * 29)))) + (wrap64 ((wrap64 (Int.tdiv (wrap64 (x1001 - 1)) (x1000.length : Int))) * 53)))) 64))) x1, x1001))) else (none)) else (none)) else (none)) else (none))))
def spec_l6Rd_pick.f (k : Nat) (s0_0 : List Int) (s0_1 : Int) (a1 : Int) : Option (Int × Int) := if a1 < 1 then (spec_l6Rd_pick.j0 k a1 true s0_0 (wrap64 (s0_1 + 1))) else (spec_l6Rd_pick.j0 k a1 ((s0_0.length : Int) == 0) s0_0 (wrap64 (s0_1 + 1)))
set_option maxHeartbeats 8000000 in
set_option maxRecDepth 100000 in
theorem spec_l6Rd_pick.calls (k : Nat) (g : Nat) (s0_0 : List Int) (s0_1 : Int) (a1 : Int) (r1 : Int) (r2 : Int) (w0 w : World) (hI : IsS81 w0 w g s0_0 s0_1) (hB : Below w0.heap.size w0 w) (h : spec_l6Rd_pick.f k s0_0 s0_1 a1 = some (r1, r2)) :
    Calls Try.prog 48 #[.pointer (some ⟨g, 0, none⟩), .int .i64 a1] w fun e w' => e = .returned (.int .i64 r1) ∧ IsS81 w0 w' g s0_0 r2 ∧ Below w0.heap.size w0 w' ∧ KeepBut w w' g none := by
  have HI0 := Aside0.mk hI
  have HK := Aside0.mk (KeepBut.refl w g none)
  have HL := Aside0.mk hB.size
  clear hI
  have HW0 := Aside0.mk hB.size
  have HB := Aside0.mk hB
  clear hB
  have H : (if a1 < 1 then (spec_l6Rd_pick.j0 k a1 true s0_0 (wrap64 (s0_1 + 1))) else (spec_l6Rd_pick.j0 k a1 ((s0_0.length : Int) == 0) s0_0 (wrap64 (s0_1 + 1)))) = some (r1, r2) := h
  clear h
  have HC3 := Aside0.mk H
  clear H
  obtain ⟨ASz4_0, cSz4_0, HGz4, hgz4, HSz4_0⟩ := HI0.out
  have hcz4_0 := cellS81_0 HGz4
  have hcz4_1 := cellS81_1 HGz4
  have hfz4_1 := blk_frozen HGz4 1
  clear HGz4 hgz4
  go_enter Try.func48, Try.ntmps48
  go_upto_region 2 with (fail)
  repeat (go_quiet (fail); go_upto_region 2 with (fail))
  go_cut [24] (fun v24 wc => ∃ (kq : Nat) (x24_2 : Bool), v24 = .bool x24_2 ∧ Aside0 (spec_l6Rd_pick.j0 kq a1 x24_2 s0_0 (wrap64 (s0_1 + 1)) = some (r1, r2)) ∧ Aside0 (kq ≤ k) ∧ Aside0 (IsS81 w0 wc g s0_0 (wrap64 (s0_1 + 1))) ∧ Aside0 (KeepBut w wc g none) ∧ Aside0 (Below w0.heap.size w0 wc))
  case first =>
    have H := HC3.out
    clear HC3
    by_cases c5 : a1 < 1
    · rw [if_pos c5] at H
      have c5b0 : decide (a1 < 1) = true := decide_eq_true c5
      clear c5
      (first | rw [c5b0] | (simp only [i64_w, i32_w]; rw [c5b0]) | skip)
      have H' := Aside0.mk H
      clear H
      go_wp2
      repeat (go_quiet (fail); try go_wp2)
      go_meet
      case rel => exact ⟨_, (true), (by first | rfl | (simp; done) | (simp [*]; done)), H', ⟨by first | omega | exact Nat.le_refl _⟩, ⟨by repeat (first | (with_reducible first | exact HI0.out | apply IsS81.alloc | apply IsS81.drewN | apply IsS81.drew | apply IsS81.set_1) | exact HI0.out)⟩, ⟨by repeat (first | (with_reducible first | exact HK.out | apply KeepBut.set_ | apply keep_drewN | apply keep_drew | apply keep_alloc) | exact HK.out)⟩, ⟨by repeat (first | (with_reducible first | exact HB.out | apply below_alloc | apply pw_below_drewN | apply below_drew1 | refine below_set ?_ (IsS81.ge HI0.out)) | exact HB.out)⟩⟩
    · rw [if_neg c5] at H
      have c5b0 : decide (a1 < 1) = false := decide_eq_false c5
      clear c5
      (first | rw [c5b0] | (simp only [i64_w, i32_w]; rw [c5b0]) | skip)
      have H' := Aside0.mk H
      clear H
      obtain ⟨ASz6_0, cSz6_0, HGz6, hgz6, HSz6_0⟩ := HI0.out
      have hcz6_0 := cellS81_0 HGz6
      have hcz6_1 := cellS81_1 HGz6
      have hfz6_1 := blk_frozen HGz6 1
      clear HGz6 hgz6
      go_wp2
      repeat (go_quiet (fail); try go_wp2)
      go_meet
      case rel => exact ⟨_, (((s0_0.length : Int) == 0)), (by first | rfl | (simp; done) | (simp [*]; done)), H', ⟨by first | omega | exact Nat.le_refl _⟩, ⟨by repeat (first | (with_reducible first | exact HI0.out | apply IsS81.alloc | apply IsS81.drewN | apply IsS81.drew | apply IsS81.set_1) | exact HI0.out)⟩, ⟨by repeat (first | (with_reducible first | exact HK.out | apply KeepBut.set_ | apply keep_drewN | apply keep_drew | apply keep_alloc) | exact HK.out)⟩, ⟨by repeat (first | (with_reducible first | exact HB.out | apply below_alloc | apply pw_below_drewN | apply below_drew1 | refine below_set ?_ (IsS81.ge HI0.out)) | exact HB.out)⟩⟩
  case rest =>
    clear HC3
    try clear p2
    try clear c4
    try clear c5
    try clear c5b0
    try clear p6
    try clear hcz4_0
    try clear hcz4_1
    try clear hcz6_0
    try clear hcz6_1
    try clear hfz4_1
    try clear hfz6_1
    obtain ⟨kq, x24_2, rfl, HA, HJ2, HI0, HK, HB⟩ := hcut
    cases kq with
    | zero => exact absurd HA.out (by simp [spec_l6Rd_pick.j0])
    | succ kj2 =>
      have H := HA.out
      clear HA
      simp only [spec_l6Rd_pick.j0] at H
      by_cases c7 : x24_2 = true
      · subst c7
        have H1 : (some (0, (wrap64 (s0_1 + 1)))) = some (r1, r2) := by rw [if_pos rfl] at H; exact H
        clear H
        have H := H1
        clear H1
        simp only [Option.some.injEq, Prod.mk.injEq] at H
        obtain ⟨rfl, rfl⟩ := H
        go_wp2
        repeat (go_quiet (fail); try go_wp2)
        go_ret
        exact ⟨by first | rfl | (simp [errW_none, errW_some] <;> rfl) | (simp [*, errW_none, errW_some] <;> rfl), by repeat (first | (with_reducible first | exact HI0.out | apply IsS81.alloc | apply IsS81.drewN | apply IsS81.drew | apply IsS81.set_1) | exact HI0.out), by repeat (first | (with_reducible first | exact HB.out | apply below_alloc | apply pw_below_drewN | apply below_drew1 | refine below_set ?_ (IsS81.ge HI0.out)) | exact HB.out), by repeat (first | (with_reducible first | exact HK.out | apply KeepBut.set_ | apply keep_drewN | apply keep_drew | apply keep_alloc) | exact HK.out)⟩
      · replace c7 := Bool.eq_false_iff.mpr c7
        subst c7
        have H1 : (if (wrap64 ((wrap64 (s0_1 + 1)) - 1)) < (s0_0.length : Int) then (if 0 ≤ (wrap64 ((wrap64 (s0_1 + 1)) - 1)) then (if a1 = 0 then (none) else (some (Int.tmod (wrap64 (rd s0_0 (wrap64 ((wrap64 (s0_1 + 1)) - 1)))) a1, (wrap64 (s0_1 + 1))))) else (none)) else (if (s0_0.length : Int) = 0 then (none) else (if 0 ≤ (Int.tmod (wrap64 ((wrap64 (s0_1 + 1)) - 1)) (s0_0.length : Int)) then (if (Int.tmod (wrap64 ((wrap64 (s0_1 + 1)) - 1)) (s0_0.length : Int)) < (s0_0.length : Int) then (if 0 ≤ (Int.tmod (wrap64 ((wrap64 ((wrap64 ((wrap64 (s0_1 + 1)) - 1)) * 7)) + 3)) (s0_0.length : Int)) then (if (Int.tmod (wrap64 ((wrap64 ((wrap64 ((wrap64 (s0_1 + 1)) - 1)) * 7)) + 3)) (s0_0.length : Int)) < (s0_0.length : Int) then (if a1 = 0 then (none) else (some (Int.tmod (Go.bits .xor .i64 (wrap64 ((wrap64 ((wrap64 ((wrap64 ((wrap64 (rd s0_0 (Int.tmod (wrap64 ((wrap64 (s0_1 + 1)) - 1)) (s0_0.length : Int)))) * 131)) + (wrap64 ((wrap64 (rd s0_0 (Int.tmod (wrap64 ((wrap64 ((wrap64 ((wrap64 (s0_1 + 1)) - 1)) * 7)) + 3)) (s0_0.length : Int)))) * 1117)))) + (wrap64 ((wrap64 ((wrap64 (s0_1 + 1)) - 1)) * 29)))) + (wrap64 ((wrap64 (Int.tdiv (wrap64 ((wrap64 (s0_1 + 1)) - 1)) (s0_0.length : Int))) * 53)))) (wrap64 (Int.tdiv (wrap64 ((wrap64 ((wrap64 ((wrap64 ((wrap64 (rd s0_0 (Int.tmod (wrap64 ((wrap64 (s0_1 + 1)) - 1)) (s0_0.length : Int)))) * 131)) + (wrap64 ((wrap64 (rd s0_0 (Int.tmod (wrap64 ((wrap64 ((wrap64 ((wrap64 (s0_1 + 1)) - 1)) * 7)) + 3)) (s0_0.length : Int)))) * 1117)))) + (wrap64 ((wrap64 ((wrap64 (s0_1 + 1)) - 1)) * 29)))) + (wrap64 ((wrap64 (Int.tdiv (wrap64 ((wrap64 (s0_1 + 1)) - 1)) (s0_0.length : Int))) * 53)))) 64))) a1, (wrap64 (s0_1 + 1))))) else (none)) else (none)) else (none)) else (none)))) = some (r1, r2) := by rw [if_neg (show ¬ (false = true) by decide)] at H; exact H
        clear H
        have H := H1
        clear H1
        by_cases c8 : (wrap64 ((wrap64 (s0_1 + 1)) - 1)) < (s0_0.length : Int)
        · rw [if_pos c8] at H
          have c8b0 : decide ((wrap64 ((wrap64 (s0_1 + 1)) - 1)) < (s0_0.length : Int)) = true := decide_eq_true c8
          clear c8
          obtain ⟨ji9, hji9⟩ : ∃ j_ : Int, (wrap64 ((wrap64 (s0_1 + 1)) - 1)) = j_ := ⟨_, rfl⟩
          replace H : (if 0 ≤ (ji9) then (if a1 = 0 then (none) else (some (Int.tmod (wrap64 (rd s0_0 (ji9))) a1, (wrap64 (s0_1 + 1))))) else (none)) = some (r1, r2) := by first | (rw [hji9] at H; exact H) | (simp only [hji9] at H ⊢; exact H)
          (try rw [hji9] at c8b0)
          have hji9w : (IntKind.i64.wrap ((wrap64 (s0_1 + 1)) - 1)) = ji9 := (i64_w _).trans hji9
          by_cases c10 : 0 ≤ (ji9)
          · rw [if_pos c10] at H
            have c10b0 : decide (0 ≤ (ji9)) = true := decide_eq_true c10
            clear c10
            by_cases c11 : a1 = 0
            · rw [if_pos c11] at H
              exact absurd H (by simp)
            · rw [if_neg c11] at H
              have c11b0 : (a1 == 0) = false := beq_eq_false_iff_ne.mpr c11
              have c11b1 : (a1 != 0) = true := bne_iff_ne.mpr c11
              simp only [Option.some.injEq, Prod.mk.injEq] at H
              obtain ⟨rfl, rfl⟩ := H
              obtain ⟨ASz12_0, cSz12_0, HGz12, hgz12, HSz12_0⟩ := HI0.out
              have hcz12_0 := cellS81_0 HGz12
              have hcz12_1 := cellS81_1 HGz12
              have hfz12_1 := blk_frozen HGz12 1
              clear HGz12 hgz12
              have p101 : 0 ≤ ((ji9) : Int) := of_decide_eq_true (by first | (with_reducible assumption) | assumption)
              have q101 : (ji9) < (s0_0.length : Int) := of_decide_eq_true (by first | (with_reducible assumption) | assumption)
              obtain ⟨ad101, e101, hx101_0⟩ := Kd.at_int HSz12_0 (ji9) p101 q101
              cases e101
              replace hx101_0 := pw_cell_below HB.out hx101_0
              replace p101 := eq_true p101
              replace q101 := eq_true q101
              go_wp2
              repeat (go_quiet (fail); try go_wp2)
              go_ret
              exact ⟨by first | rfl | (simp [errW_none, errW_some] <;> rfl) | (simp only [← hji9]; first | rfl | (simp [errW_none, errW_some] <;> rfl)) | (simp [*, errW_none, errW_some] <;> rfl), by repeat (first | (with_reducible first | exact HI0.out | apply IsS81.alloc | apply IsS81.drewN | apply IsS81.drew | apply IsS81.set_1) | exact HI0.out), by repeat (first | (with_reducible first | exact HB.out | apply below_alloc | apply pw_below_drewN | apply below_drew1 | refine below_set ?_ (IsS81.ge HI0.out)) | exact HB.out), by repeat (first | (with_reducible first | exact HK.out | apply KeepBut.set_ | apply keep_drewN | apply keep_drew | apply keep_alloc) | exact HK.out)⟩
          · rw [if_neg c10] at H
            exact absurd H (by simp)
        · rw [if_neg c8] at H
          have c8b0 : decide ((wrap64 ((wrap64 (s0_1 + 1)) - 1)) < (s0_0.length : Int)) = false := decide_eq_false c8
          clear c8
          by_cases c13 : (s0_0.length : Int) = 0
          · rw [if_pos c13] at H
            exact absurd H (by simp)
          · rw [if_neg c13] at H
            have c13b0 : ((s0_0.length : Int) == 0) = false := beq_eq_false_iff_ne.mpr c13
            have c13b1 : ((s0_0.length : Int) != 0) = true := bne_iff_ne.mpr c13
            have c13b2 : ¬ (s0_0 = []) := fun h_ => c13 (by rw [h_]; rfl)
            obtain ⟨ji14, hji14⟩ : ∃ j_ : Int, (Int.tmod (wrap64 ((wrap64 (s0_1 + 1)) - 1)) (s0_0.length : Int)) = j_ := ⟨_, rfl⟩
            replace H : (if 0 ≤ (ji14) then (if (ji14) < (s0_0.length : Int) then (if 0 ≤ (Int.tmod (wrap64 ((wrap64 ((wrap64 ((wrap64 (s0_1 + 1)) - 1)) * 7)) + 3)) (s0_0.length : Int)) then (if (Int.tmod (wrap64 ((wrap64 ((wrap64 ((wrap64 (s0_1 + 1)) - 1)) * 7)) + 3)) (s0_0.length : Int)) < (s0_0.length : Int) then (if a1 = 0 then (none) else (some (Int.tmod (Go.bits .xor .i64 (wrap64 ((wrap64 ((wrap64 ((wrap64 ((wrap64 (rd s0_0 (ji14))) * 131)) + (wrap64 ((wrap64 (rd s0_0 (Int.tmod (wrap64 ((wrap64 ((wrap64 ((wrap64 (s0_1 + 1)) - 1)) * 7)) + 3)) (s0_0.length : Int)))) * 1117)))) + (wrap64 ((wrap64 ((wrap64 (s0_1 + 1)) - 1)) * 29)))) + (wrap64 ((wrap64 (Int.tdiv (wrap64 ((wrap64 (s0_1 + 1)) - 1)) (s0_0.length : Int))) * 53)))) (wrap64 (Int.tdiv (wrap64 ((wrap64 ((wrap64 ((wrap64 ((wrap64 (rd s0_0 (ji14))) * 131)) + (wrap64 ((wrap64 (rd s0_0 (Int.tmod (wrap64 ((wrap64 ((wrap64 ((wrap64 (s0_1 + 1)) - 1)) * 7)) + 3)) (s0_0.length : Int)))) * 1117)))) + (wrap64 ((wrap64 ((wrap64 (s0_1 + 1)) - 1)) * 29)))) + (wrap64 ((wrap64 (Int.tdiv (wrap64 ((wrap64 (s0_1 + 1)) - 1)) (s0_0.length : Int))) * 53)))) 64))) a1, (wrap64 (s0_1 + 1))))) else (none)) else (none)) else (none)) else (none)) = some (r1, r2) := by first | (rw [hji14] at H; exact H) | (simp only [hji14] at H ⊢; exact H)
            by_cases c15 : 0 ≤ (ji14)
            · rw [if_pos c15] at H
              have c15b0 : decide (0 ≤ (ji14)) = true := decide_eq_true c15
              clear c15
              by_cases c16 : (ji14) < (s0_0.length : Int)
              · rw [if_pos c16] at H
                have c16b0 : decide ((ji14) < (s0_0.length : Int)) = true := decide_eq_true c16
                clear c16
                obtain ⟨ji17, hji17⟩ : ∃ j_ : Int, (Int.tmod (wrap64 ((wrap64 ((wrap64 ((wrap64 (s0_1 + 1)) - 1)) * 7)) + 3)) (s0_0.length : Int)) = j_ := ⟨_, rfl⟩
                replace H : (if 0 ≤ (ji17) then (if (ji17) < (s0_0.length : Int) then (if a1 = 0 then (none) else (some (Int.tmod (Go.bits .xor .i64 (wrap64 ((wrap64 ((wrap64 ((wrap64 ((wrap64 (rd s0_0 (ji14))) * 131)) + (wrap64 ((wrap64 (rd s0_0 (ji17))) * 1117)))) + (wrap64 ((wrap64 ((wrap64 (s0_1 + 1)) - 1)) * 29)))) + (wrap64 ((wrap64 (Int.tdiv (wrap64 ((wrap64 (s0_1 + 1)) - 1)) (s0_0.length : Int))) * 53)))) (wrap64 (Int.tdiv (wrap64 ((wrap64 ((wrap64 ((wrap64 ((wrap64 (rd s0_0 (ji14))) * 131)) + (wrap64 ((wrap64 (rd s0_0 (ji17))) * 1117)))) + (wrap64 ((wrap64 ((wrap64 (s0_1 + 1)) - 1)) * 29)))) + (wrap64 ((wrap64 (Int.tdiv (wrap64 ((wrap64 (s0_1 + 1)) - 1)) (s0_0.length : Int))) * 53)))) 64))) a1, (wrap64 (s0_1 + 1))))) else (none)) else (none)) = some (r1, r2) := by first | (rw [hji17] at H; exact H) | (simp only [hji17] at H ⊢; exact H)
                by_cases c18 : 0 ≤ (ji17)
                · rw [if_pos c18] at H
                  have c18b0 : decide (0 ≤ (ji17)) = true := decide_eq_true c18
                  clear c18
                  by_cases c19 : (ji17) < (s0_0.length : Int)
                  · rw [if_pos c19] at H
                    have c19b0 : decide ((ji17) < (s0_0.length : Int)) = true := decide_eq_true c19
                    clear c19
                    by_cases c20 : a1 = 0
                    · rw [if_pos c20] at H
                      exact absurd H (by simp)
                    · rw [if_neg c20] at H
                      have c20b0 : (a1 == 0) = false := beq_eq_false_iff_ne.mpr c20
                      have c20b1 : (a1 != 0) = true := bne_iff_ne.mpr c20
                      simp only [Option.some.injEq, Prod.mk.injEq] at H
                      obtain ⟨rfl, rfl⟩ := H
                      obtain ⟨ASz21_0, cSz21_0, HGz21, hgz21, HSz21_0⟩ := HI0.out
                      have hcz21_0 := cellS81_0 HGz21
                      have hcz21_1 := cellS81_1 HGz21
                      have hfz21_1 := blk_frozen HGz21 1
                      clear HGz21 hgz21
                      have p102 : 0 ≤ ((ji14) : Int) := of_decide_eq_true (by first | (with_reducible assumption) | assumption)
                      have q102 : (ji14) < (s0_0.length : Int) := of_decide_eq_true (by first | (with_reducible assumption) | assumption)
                      obtain ⟨ad102, e102, hx102_0⟩ := Kd.at_int HSz21_0 (ji14) p102 q102
                      cases e102
                      replace hx102_0 := pw_cell_below HB.out hx102_0
                      replace p102 := eq_true p102
                      replace q102 := eq_true q102
                      have p103 : 0 ≤ ((ji17) : Int) := of_decide_eq_true (by first | (with_reducible assumption) | assumption)
                      have q103 : (ji17) < (s0_0.length : Int) := of_decide_eq_true (by first | (with_reducible assumption) | assumption)
                      obtain ⟨ad103, e103, hx103_0⟩ := Kd.at_int HSz21_0 (ji17) p103 q103
                      obtain rfl : ad102 = ad103 := (by injection e103)
                      replace hx103_0 := pw_cell_below HB.out hx103_0
                      replace p103 := eq_true p103
                      replace q103 := eq_true q103
                      go_wp2
                      repeat (go_quiet (fail); try go_wp2)
                      go_ret
                      exact ⟨by first | rfl | (simp [errW_none, errW_some] <;> rfl) | (simp only [← hji14, ← hji17]; first | rfl | (simp [errW_none, errW_some] <;> rfl)) | (simp [*, errW_none, errW_some] <;> rfl), by repeat (first | (with_reducible first | exact HI0.out | apply IsS81.alloc | apply IsS81.drewN | apply IsS81.drew | apply IsS81.set_1) | exact HI0.out), by repeat (first | (with_reducible first | exact HB.out | apply below_alloc | apply pw_below_drewN | apply below_drew1 | refine below_set ?_ (IsS81.ge HI0.out)) | exact HB.out), by repeat (first | (with_reducible first | exact HK.out | apply KeepBut.set_ | apply keep_drewN | apply keep_drew | apply keep_alloc) | exact HK.out)⟩
                  · rw [if_neg c19] at H
                    exact absurd H (by simp)
                · rw [if_neg c18] at H
                  exact absurd H (by simp)
              · rw [if_neg c16] at H
                exact absurd H (by simp)
            · rw [if_neg c15] at H
              exact absurd H (by simp)

end Go.Proofs.Ytgdhgncdpmalcaa.Q
namespace Go.Proofs.Ytgdhgncdpmalcaa.Q
open Go.RowKit Go.Proofs.YtgdhgncdpmalcaaW.PrintWords Go.Proofs.YtgdhgncdpmalcaaW.PrintLast Go.Proofs.YtgdhgncdpmalcaaW.PrintMore
attribute [local go_sem] max2_int min2_int max_two min_two max_three min_three max_four min_four   -- for this text's walks alone
set_option linter.unusedVariables false
set_option linter.unusedSimpArgs false

/-! ### spec_l91Point: function 55 -/
def spec_l91Point.f (k : Nat) (s0_0 : List Int) (s0_1 : Int) : Option (Int × Int × Int) := (spec_l6Rd_pick.f k s0_0 s0_1 13).bind fun bt105 => ((spec_l6Rd_pick.f k s0_0 bt105.2 13).bind fun bt107 => ((spec_l6Rd_pick.f k s0_0 bt107.2 40).bind fun bt110 => (if bt110.1 = 0 then ((some (([10000, 10001, (-10001)] : List Int) : List Int)).bind fun y112 => ((spec_l6Rd_pick.f k s0_0 bt110.2 3).bind fun bt115 => (if 0 ≤ bt115.1 then (if bt115.1 < (y112.length : Int) then (some (rd y112 bt115.1, wrap64 (bt107.1 - 6), bt115.2)) else (none)) else (none)))) else (if bt110.1 = 1 then ((spec_l6Rd_pick.f k s0_0 bt110.2 200).bind fun bt118 => ((spec_l6Rd_pick.f k s0_0 bt118.2 200).bind fun bt120 => (some (wrap64 ((wrap64 (bt118.1 * 50)) - 5000), wrap64 ((wrap64 (bt120.1 * 50)) - 5000), bt120.2)))) else (some (wrap64 (bt105.1 - 6), wrap64 (bt107.1 - 6), bt110.2))))))
set_option maxHeartbeats 8000000 in
set_option maxRecDepth 100000 in
theorem spec_l91Point.calls (k : Nat) (g : Nat) (s0_0 : List Int) (s0_1 : Int) (r1 : Int) (r2 : Int) (r3 : Int) (w0 w : World) (hI : IsS81 w0 w g s0_0 s0_1) (hB : Below w0.heap.size w0 w) (h : spec_l91Point.f k s0_0 s0_1 = some (r1, r2, r3)) :
    Calls Try.prog 55 #[.pointer (some ⟨g, 0, none⟩)] w fun e w' => e = .returned (.agg #[.int .i64 r1, .int .i64 r2]) ∧ IsS81 w0 w' g s0_0 r3 ∧ Below w0.heap.size w0 w' ∧ KeepBut w w' g none := by
  have hu32 := Try.underlying32
  have HI0 := Aside0.mk hI
  have HK := Aside0.mk (KeepBut.refl w g none)
  have HL := Aside0.mk hB.size
  clear hI
  have HW0 := Aside0.mk hB.size
  have HB := Aside0.mk hB
  clear hB
  have H : ((spec_l6Rd_pick.f k s0_0 s0_1 13).bind fun bt105 => ((spec_l6Rd_pick.f k s0_0 bt105.2 13).bind fun bt107 => ((spec_l6Rd_pick.f k s0_0 bt107.2 40).bind fun bt110 => (if bt110.1 = 0 then ((some (([10000, 10001, (-10001)] : List Int) : List Int)).bind fun y112 => ((spec_l6Rd_pick.f k s0_0 bt110.2 3).bind fun bt115 => (if 0 ≤ bt115.1 then (if bt115.1 < (y112.length : Int) then (some (rd y112 bt115.1, wrap64 (bt107.1 - 6), bt115.2)) else (none)) else (none)))) else (if bt110.1 = 1 then ((spec_l6Rd_pick.f k s0_0 bt110.2 200).bind fun bt118 => ((spec_l6Rd_pick.f k s0_0 bt118.2 200).bind fun bt120 => (some (wrap64 ((wrap64 (bt118.1 * 50)) - 5000), wrap64 ((wrap64 (bt120.1 * 50)) - 5000), bt120.2)))) else (some (wrap64 (bt105.1 - 6), wrap64 (bt107.1 - 6), bt110.2))))))) = some (r1, r2, r3) := h
  clear h
  replace H := Option.bind_eq_some_iff.mp H
  obtain ⟨⟨t105, t106⟩, A20, H⟩ := H
  replace H : ((spec_l6Rd_pick.f k s0_0 t106 13).bind fun bt107 => ((spec_l6Rd_pick.f k s0_0 bt107.2 40).bind fun bt110 => (if bt110.1 = 0 then ((some (([10000, 10001, (-10001)] : List Int) : List Int)).bind fun y112 => ((spec_l6Rd_pick.f k s0_0 bt110.2 3).bind fun bt115 => (if 0 ≤ bt115.1 then (if bt115.1 < (y112.length : Int) then (some (rd y112 bt115.1, wrap64 (bt107.1 - 6), bt115.2)) else (none)) else (none)))) else (if bt110.1 = 1 then ((spec_l6Rd_pick.f k s0_0 bt110.2 200).bind fun bt118 => ((spec_l6Rd_pick.f k s0_0 bt118.2 200).bind fun bt120 => (some (wrap64 ((wrap64 (bt118.1 * 50)) - 5000), wrap64 ((wrap64 (bt120.1 * 50)) - 5000), bt120.2)))) else (some (wrap64 (t105 - 6), wrap64 (bt107.1 - 6), bt110.2)))))) = some (r1, r2, r3) := H
  have A2 := Aside0.mk A20
  clear A20
  replace H := Option.bind_eq_some_iff.mp H
  obtain ⟨⟨t107, t108⟩, A30, H⟩ := H
  replace H : ((spec_l6Rd_pick.f k s0_0 t108 40).bind fun bt110 => (if bt110.1 = 0 then ((some (([10000, 10001, (-10001)] : List Int) : List Int)).bind fun y112 => ((spec_l6Rd_pick.f k s0_0 bt110.2 3).bind fun bt115 => (if 0 ≤ bt115.1 then (if bt115.1 < (y112.length : Int) then (some (rd y112 bt115.1, wrap64 (t107 - 6), bt115.2)) else (none)) else (none)))) else (if bt110.1 = 1 then ((spec_l6Rd_pick.f k s0_0 bt110.2 200).bind fun bt118 => ((spec_l6Rd_pick.f k s0_0 bt118.2 200).bind fun bt120 => (some (wrap64 ((wrap64 (bt118.1 * 50)) - 5000), wrap64 ((wrap64 (bt120.1 * 50)) - 5000), bt120.2)))) else (some (wrap64 (t105 - 6), wrap64 (t107 - 6), bt110.2))))) = some (r1, r2, r3) := H
  have A3 := Aside0.mk A30
  clear A30
  replace H := Option.bind_eq_some_iff.mp H
  obtain ⟨⟨t110, t111⟩, A40, H⟩ := H
  replace H : (if t110 = 0 then ((some (([10000, 10001, (-10001)] : List Int) : List Int)).bind fun y112 => ((spec_l6Rd_pick.f k s0_0 t111 3).bind fun bt115 => (if 0 ≤ bt115.1 then (if bt115.1 < (y112.length : Int) then (some (rd y112 bt115.1, wrap64 (t107 - 6), bt115.2)) else (none)) else (none)))) else (if t110 = 1 then ((spec_l6Rd_pick.f k s0_0 t111 200).bind fun bt118 => ((spec_l6Rd_pick.f k s0_0 bt118.2 200).bind fun bt120 => (some (wrap64 ((wrap64 (bt118.1 * 50)) - 5000), wrap64 ((wrap64 (bt120.1 * 50)) - 5000), bt120.2)))) else (some (wrap64 (t105 - 6), wrap64 (t107 - 6), t111)))) = some (r1, r2, r3) := H
  have A4 := Aside0.mk A40
  clear A40
  by_cases c5 : t110 = 0
  · rw [if_pos c5] at H
    have c5b0 : (t110 == 0) = true := beq_iff_eq.mpr c5
    have c5b1 : (t110 != 0) = false := bne_eq_false_iff_eq.mpr c5
    clear c5
    obtain ⟨y112, hy112⟩ : ∃ y_ : List Int, y_ = (([10000, 10001, (-10001)] : List Int)) := ⟨_, rfl⟩
    replace H : ((spec_l6Rd_pick.f k s0_0 t111 3).bind fun bt115 => (if 0 ≤ bt115.1 then (if bt115.1 < (y112.length : Int) then (some (rd y112 bt115.1, wrap64 (t107 - 6), bt115.2)) else (none)) else (none))) = some (r1, r2, r3) := by first | (rw [hy112]; with_reducible exact H) | (have H2_ := (Option.bind_some _ _).symm.trans H; rw [hy112]; with_reducible exact H2_) | (have H2_ := (Option.bind_some _ _).symm.trans H; with_reducible exact H2_) | with_reducible exact H | (rw [hy112]; exact H) | exact H
    have Ny112 := Aside0.mk hy112
    clear hy112
    replace H := Option.bind_eq_some_iff.mp H
    obtain ⟨⟨t115, t116⟩, A60, H⟩ := H
    replace H : (if 0 ≤ t115 then (if t115 < (y112.length : Int) then (some (rd y112 t115, wrap64 (t107 - 6), t116)) else (none)) else (none)) = some (r1, r2, r3) := H
    have A6 := Aside0.mk A60
    clear A60
    by_cases c7 : 0 ≤ t115
    · rw [if_pos c7] at H
      have c7b0 : decide (0 ≤ t115) = true := decide_eq_true c7
      clear c7
      by_cases c8 : t115 < (y112.length : Int)
      · rw [if_pos c8] at H
        have c8b0 : decide (t115 < (y112.length : Int)) = true := decide_eq_true c8
        clear c8
        simp only [Option.some.injEq, Prod.mk.injEq] at H
        obtain ⟨rfl, rfl, rfl⟩ := H
        go_enter Try.func55, Try.ntmps55
        go_wp2_with (first | ((with_reducible refine gate_dst (N := 2) rfl ?_); refine box_event ?hg (N := 2) ?hd (cs := #[.int .i64 0, .int .i64 0]) (t := 32) ?hr ?_; (case hd => rfl); (case hg => rfl); (case hr => first | (go_simp; done) | (go_simp; rfl)); intro gb104 hg w9 hbox hb; have n0_ := Aside0.mk (IsS81.below (by repeat (first | (with_reducible first | exact HI0.out | apply IsS81.alloc | apply IsS81.drewN | apply IsS81.drew | apply IsS81.set_1) | exact HI0.out)) hb); have n1_ := Aside0.mk (KeepBut.trans (by repeat (first | (with_reducible first | exact HK.out | apply KeepBut.set_ | apply keep_drewN | apply keep_drew | apply keep_alloc) | exact HK.out)) (KeepBut.of_below hb g none) (.inl rfl)); have n2_ := Aside0.mk (below_step (by repeat (first | (with_reducible first | exact HB.out | apply below_alloc | apply pw_below_drewN | apply below_drew1 | refine below_set ?_ (IsS81.ge HI0.out)) | exact HB.out)) hb); have n3_ := Aside0.mk (hbox); have n4_ := Aside0.mk ((by rw [hg]; exact (keep_size (w := w) (g := g) (row := none) (by repeat (first | (with_reducible first | exact HK.out | apply KeepBut.set_ | apply keep_drewN | apply keep_drew | apply keep_alloc) | exact HK.out))) : w.heap.size ≤ gb104)); have n5_ := Aside0.mk ((Nat.le_trans HW0.out (by rw [hg]; exact (keep_size (w := w) (g := g) (row := none) (by repeat (first | (with_reducible first | exact HK.out | apply KeepBut.set_ | apply keep_drewN | apply keep_drew | apply keep_alloc) | exact HK.out))) : w.heap.size ≤ gb104) : w0.heap.size ≤ gb104)); have n6_ := Aside0.mk ((by rw [hg]; exact Nat.ne_of_lt (IsS81.lt (show IsS81 w0 _ g s0_0 s0_1 from by repeat (first | (with_reducible first | exact HI0.out | apply IsS81.alloc | apply IsS81.drewN | apply IsS81.drew | apply IsS81.set_1) | exact HI0.out))) : g ≠ gb104)); have n7_ := Aside0.mk ((by rw [hg]; exact Nat.ne_of_gt (IsS81.lt (show IsS81 w0 _ g s0_0 s0_1 from by repeat (first | (with_reducible first | exact HI0.out | apply IsS81.alloc | apply IsS81.drewN | apply IsS81.drew | apply IsS81.set_1) | exact HI0.out))) : gb104 ≠ g)); clear HI0; clear HK; clear HB; have HI0 := n0_; have HK := n1_; have HB := n2_; have BK104 := n3_; have GW104 := n4_; have GE104 := n5_; have NB0_104 := n6_; have NB104_0 := n7_; clear n0_ n1_ n2_ n3_ n4_ n5_ n6_ n7_; clear hb hbox hg) | ((with_reducible refine gate_callee (f := 48) rfl ?_); refine goesL_ (some 5) rfl rfl Try.func48 (by kernel_rfl) rfl #[.pointer (some ⟨g, 0, none⟩), .int .i64 13] rfl (by (try simp only [List.map_toArray, List.map_cons, List.map_nil]); first | done | rfl | (simp only [List.length_drop, List.length_take]; rfl)) ?_; (with_reducible refine (spec_l6Rd_pick.calls k g s0_0 s0_1 13 t105 t106 w0 _ ?side1 ?side2 A2.out).mono ?_); (case side1 => repeat (first | (with_reducible first | exact HI0.out | apply IsS81.alloc | apply IsS81.drewN | apply IsS81.drew | apply IsS81.set_1 | refine IsS81.far ?_ NB0_104.out _) | exact HI0.out)); (case side2 => repeat (first | (with_reducible first | exact HB.out | apply below_alloc | apply pw_below_drewN | apply below_drew1 | refine below_set ?_ (IsS81.ge HI0.out) | refine below_set ?_ GE104.out) | exact HB.out)); rintro e w10 ⟨rfl, hi, hb, hk⟩; refine ⟨_, rfl, ?_⟩; have n0_ := Aside0.mk (KeepBut.blk hk (g' := gb104) (o := .cells #[.int .i64 0, .int .i64 0] 32 (0, 0)) (by (with_reducible repeat (first | refine blk_drewN ?_ _ | refine blk_drew ?_ | refine blk_alloc ?_ _)); exact BK104.out) NB104_0.out (by simp)); have n1_ := Aside0.mk (KeepBut.trans (by repeat (first | (with_reducible first | exact HK.out | apply KeepBut.set_ | apply keep_drewN | apply keep_drew | apply keep_alloc | refine keep_far ?_ GW104.out _) | exact HK.out)) hk (.inl rfl)); have n2_ := Aside0.mk (hb); have n3_ := Aside0.mk (hi); clear BK104; clear HK; clear HB; clear HI0; have BK104 := n0_; have HK := n1_; have HB := n2_; have HI0 := n3_; clear n0_ n1_ n2_ n3_; (try clear hb); (try clear hb2); (try clear hk); (try clear hi)) | ((with_reducible refine gate_callee (f := 48) rfl ?_); refine goesL_ (some 8) rfl rfl Try.func48 (by kernel_rfl) rfl #[.pointer (some ⟨g, 0, none⟩), .int .i64 13] rfl (by (try simp only [List.map_toArray, List.map_cons, List.map_nil]); first | done | rfl | (simp only [List.length_drop, List.length_take]; rfl)) ?_; (with_reducible refine (spec_l6Rd_pick.calls k g s0_0 t106 13 t107 t108 w0 _ ?side1 ?side2 A3.out).mono ?_); (case side1 => repeat (first | (with_reducible first | exact HI0.out | apply IsS81.alloc | apply IsS81.drewN | apply IsS81.drew | apply IsS81.set_1 | refine IsS81.far ?_ NB0_104.out _) | exact HI0.out)); (case side2 => repeat (first | (with_reducible first | exact HB.out | apply below_alloc | apply pw_below_drewN | apply below_drew1 | refine below_set ?_ (IsS81.ge HI0.out) | refine below_set ?_ GE104.out) | exact HB.out)); rintro e w11 ⟨rfl, hi, hb, hk⟩; refine ⟨_, rfl, ?_⟩; have n0_ := Aside0.mk (KeepBut.blk hk (g' := gb104) (o := .cells #[.int .i64 0, .int .i64 0] 32 (0, 0)) (by (with_reducible repeat (first | refine blk_drewN ?_ _ | refine blk_drew ?_ | refine blk_alloc ?_ _)); exact BK104.out) NB104_0.out (by simp)); have n1_ := Aside0.mk (KeepBut.trans (by repeat (first | (with_reducible first | exact HK.out | apply KeepBut.set_ | apply keep_drewN | apply keep_drew | apply keep_alloc | refine keep_far ?_ GW104.out _) | exact HK.out)) hk (.inl rfl)); have n2_ := Aside0.mk (hb); have n3_ := Aside0.mk (hi); clear BK104; clear HK; clear HB; clear HI0; have BK104 := n0_; have HK := n1_; have HB := n2_; have HI0 := n3_; clear n0_ n1_ n2_ n3_; (try clear hb); (try clear hb2); (try clear hk); (try clear hi)) | ((with_reducible refine gate_dst (N := 3) rfl ?_); refine box_event ?hg (N := 3) ?hd (cs := #[.int .i64 0, .int .i64 0]) (t := 32) ?hr ?_; (case hd => rfl); (case hg => rfl); (case hr => first | (go_simp; done) | (go_simp; rfl)); intro gb109 hg w12 hbox hb; have n0_ := Aside0.mk (IsS81.below (by repeat (first | (with_reducible first | exact HI0.out | apply IsS81.alloc | apply IsS81.drewN | apply IsS81.drew | apply IsS81.set_1 | refine IsS81.far ?_ NB0_104.out _) | exact HI0.out)) hb); have n1_ := Aside0.mk (blk_below (g := gb104) (o := .cells #[.int .i64 0, .int .i64 0] 32 (0, 0)) (by (with_reducible repeat (first | refine blk_drewN ?_ _ | refine blk_drew ?_ | refine blk_alloc ?_ _)); exact BK104.out) hb); have n2_ := Aside0.mk (KeepBut.trans (by repeat (first | (with_reducible first | exact HK.out | apply KeepBut.set_ | apply keep_drewN | apply keep_drew | apply keep_alloc | refine keep_far ?_ GW104.out _) | exact HK.out)) (KeepBut.of_below hb g none) (.inl rfl)); have n3_ := Aside0.mk (below_step (by repeat (first | (with_reducible first | exact HB.out | apply below_alloc | apply pw_below_drewN | apply below_drew1 | refine below_set ?_ (IsS81.ge HI0.out) | refine below_set ?_ GE104.out) | exact HB.out)) hb); have n4_ := Aside0.mk (hbox); have n5_ := Aside0.mk ((by rw [hg]; exact (keep_size (w := w) (g := g) (row := none) (by repeat (first | (with_reducible first | exact HK.out | apply KeepBut.set_ | apply keep_drewN | apply keep_drew | apply keep_alloc | refine keep_far ?_ GW104.out _) | exact HK.out))) : w.heap.size ≤ gb109)); have n6_ := Aside0.mk ((Nat.le_trans HW0.out (by rw [hg]; exact (keep_size (w := w) (g := g) (row := none) (by repeat (first | (with_reducible first | exact HK.out | apply KeepBut.set_ | apply keep_drewN | apply keep_drew | apply keep_alloc | refine keep_far ?_ GW104.out _) | exact HK.out))) : w.heap.size ≤ gb109) : w0.heap.size ≤ gb109)); have n7_ := Aside0.mk ((by rw [hg]; exact Nat.ne_of_lt (blk_lt (g := gb104) (o := .cells #[.int .i64 0, .int .i64 0] 32 (0, 0)) (by (with_reducible repeat (first | refine blk_drewN ?_ _ | refine blk_drew ?_ | refine blk_alloc ?_ _)); exact BK104.out)) : gb104 ≠ gb109)); have n8_ := Aside0.mk ((by rw [hg]; exact Nat.ne_of_gt (blk_lt (g := gb104) (o := .cells #[.int .i64 0, .int .i64 0] 32 (0, 0)) (by (with_reducible repeat (first | refine blk_drewN ?_ _ | refine blk_drew ?_ | refine blk_alloc ?_ _)); exact BK104.out)) : gb109 ≠ gb104)); have n9_ := Aside0.mk ((by rw [hg]; exact Nat.ne_of_lt (IsS81.lt (show IsS81 w0 _ g s0_0 t108 from by repeat (first | (with_reducible first | exact HI0.out | apply IsS81.alloc | apply IsS81.drewN | apply IsS81.drew | apply IsS81.set_1 | refine IsS81.far ?_ NB0_104.out _) | exact HI0.out))) : g ≠ gb109)); have n10_ := Aside0.mk ((by rw [hg]; exact Nat.ne_of_gt (IsS81.lt (show IsS81 w0 _ g s0_0 t108 from by repeat (first | (with_reducible first | exact HI0.out | apply IsS81.alloc | apply IsS81.drewN | apply IsS81.drew | apply IsS81.set_1 | refine IsS81.far ?_ NB0_104.out _) | exact HI0.out))) : gb109 ≠ g)); clear HI0; clear BK104; clear HK; clear HB; have HI0 := n0_; have BK104 := n1_; have HK := n2_; have HB := n3_; have BK109 := n4_; have GW109 := n5_; have GE109 := n6_; have NB104_109 := n7_; have NB109_104 := n8_; have NB0_109 := n9_; have NB109_0 := n10_; clear n0_ n1_ n2_ n3_ n4_ n5_ n6_ n7_ n8_ n9_ n10_; clear hb hbox hg; have hnb13 := NB109_104.out; have hnc13 := NB104_109.out; have hnb14 := NB109_0.out; have hnc14 := NB0_109.out; have hcz15_0 : w12.cell? ⟨gb109, 0, none⟩ = some (.int .i64 0) := (blk_cell BK109.out 0).trans rfl; have hcz15_1 : w12.cell? ⟨gb109, 1, none⟩ = some (.int .i64 0) := (blk_cell BK109.out 1).trans rfl; have hfz15_0 := blk_frozen BK109.out 0; have hfz15_1 := blk_frozen BK109.out 1) | ((with_reducible refine gate_callee (f := 48) rfl ?_); refine goesL_ (some 12) rfl rfl Try.func48 (by kernel_rfl) rfl #[.pointer (some ⟨g, 0, none⟩), .int .i64 40] rfl (by (try simp only [List.map_toArray, List.map_cons, List.map_nil]); first | done | rfl | (simp only [List.length_drop, List.length_take]; rfl)) ?_; (with_reducible refine (spec_l6Rd_pick.calls k g s0_0 t108 40 t110 t111 w0 _ ?side1 ?side2 A4.out).mono ?_); (case side1 => repeat (first | (with_reducible first | exact HI0.out | apply IsS81.alloc | apply IsS81.drewN | apply IsS81.drew | apply IsS81.set_1 | refine IsS81.far ?_ NB0_104.out _ | refine IsS81.far ?_ NB0_109.out _) | exact HI0.out)); (case side2 => repeat (first | (with_reducible first | exact HB.out | apply below_alloc | apply pw_below_drewN | apply below_drew1 | refine below_set ?_ (IsS81.ge HI0.out) | refine below_set ?_ GE104.out | refine below_set ?_ GE109.out) | exact HB.out)); rintro e w16 ⟨rfl, hi, hb, hk⟩; refine ⟨_, rfl, ?_⟩; have n0_ := Aside0.mk (KeepBut.blk hk (g' := gb104) (o := .cells #[.int .i64 0, .int .i64 0] 32 (0, 0)) (by (with_reducible repeat (first | refine blk_drewN ?_ _ | refine blk_drew ?_ | refine blk_alloc ?_ _)); refine blk_far ?_ NB104_109.out _; (with_reducible repeat (first | refine blk_drewN ?_ _ | refine blk_drew ?_ | refine blk_alloc ?_ _)); refine blk_far ?_ NB104_109.out _; (with_reducible repeat (first | refine blk_drewN ?_ _ | refine blk_drew ?_ | refine blk_alloc ?_ _)); exact BK104.out) NB104_0.out (by simp)); have n1_ := Aside0.mk (KeepBut.blk hk (g' := gb109) (o := .cells #[.int .i64 (wrap64 (t105 - 6)), .int .i64 (wrap64 (t107 - 6))] 32 (0, 0)) (by (with_reducible repeat (first | refine blk_drewN ?_ _ | refine blk_drew ?_ | refine blk_alloc ?_ _)); refine blk_put (cs := #[.int .i64 (wrap64 (t105 - 6)), .int .i64 0]) ?_ 1 _ rfl; (with_reducible repeat (first | refine blk_drewN ?_ _ | refine blk_drew ?_ | refine blk_alloc ?_ _)); refine blk_put (cs := #[.int .i64 0, .int .i64 0]) ?_ 0 _ rfl; (with_reducible repeat (first | refine blk_drewN ?_ _ | refine blk_drew ?_ | refine blk_alloc ?_ _)); exact BK109.out) NB109_0.out (by simp)); have n2_ := Aside0.mk (KeepBut.trans (by repeat (first | (with_reducible first | exact HK.out | apply KeepBut.set_ | apply keep_drewN | apply keep_drew | apply keep_alloc | refine keep_far ?_ GW104.out _ | refine keep_far ?_ GW109.out _) | exact HK.out)) hk (.inl rfl)); have n3_ := Aside0.mk (hb); have n4_ := Aside0.mk (hi); clear BK104; clear BK109; clear HK; clear HB; clear HI0; have BK104 := n0_; have BK109 := n1_; have HK := n2_; have HB := n3_; have HI0 := n4_; clear n0_ n1_ n2_ n3_ n4_; (try clear hb); (try clear hb2); (try clear hk); (try clear hi)) | ((with_reducible refine gate_dst (N := 15) rfl ?_); refine Kd.R_lit (Kd.int .i64) _ 3 ?hg (N := 15) ?hd (xs := ([10000, 10001, (-10001)] : List Int)) (inner := [.int .i64 10000, .int .i64 10001, .int .i64 (-10001)]) (ok := fun _ => True) (okp := fun _ => True) ?hr ?hp (fun _ hk => hk) trivial (Below.refl _ _) (Nat.le_refl _) (by simp) ?_; (case hd => rfl); (case hg => rfl); (case hr => first | (go_simp; done) | (go_simp; rfl)); (case hp => exact (Reps.one (show Kd.M (Kd.int .i64) _ _ _ 10000 [.int .i64 10000] from rfl) (Reps.one (show Kd.M (Kd.int .i64) _ _ _ 10001 [.int .i64 10001] from rfl) (Reps.one (show Kd.M (Kd.int .i64) _ _ _ (-10001) [.int .i64 (-10001)] from rfl) (Reps.none _ _))))); intro v113 w17 ho18 hb hg_ hnew_; clear hg_ hnew_; (first | rw [← Ny112.out] at ho18 | (simp only [Int.reduceToNat] at ho18; rw [← Ny112.out] at ho18)); have n0_ := Aside0.mk (Kd.R_lower ho18 (keep_size (w := w) (g := g) (row := none) (by repeat (first | (with_reducible first | exact HK.out | apply KeepBut.set_ | apply keep_drewN | apply keep_drew | apply keep_alloc | refine keep_far ?_ GW104.out _ | refine keep_far ?_ GW109.out _) | exact HK.out)))); have n1_ := Aside0.mk (IsS81.below (by repeat (first | (with_reducible first | exact HI0.out | apply IsS81.alloc | apply IsS81.drewN | apply IsS81.drew | apply IsS81.set_1 | refine IsS81.far ?_ NB0_104.out _ | refine IsS81.far ?_ NB0_109.out _) | exact HI0.out)) hb); have n2_ := Aside0.mk (blk_below (g := gb104) (o := .cells #[.int .i64 0, .int .i64 0] 32 (0, 0)) (by (with_reducible repeat (first | refine blk_drewN ?_ _ | refine blk_drew ?_ | refine blk_alloc ?_ _)); exact BK104.out) hb); have n3_ := Aside0.mk (blk_below (g := gb109) (o := .cells #[.int .i64 (wrap64 (t105 - 6)), .int .i64 (wrap64 (t107 - 6))] 32 (0, 0)) (by (with_reducible repeat (first | refine blk_drewN ?_ _ | refine blk_drew ?_ | refine blk_alloc ?_ _)); exact BK109.out) hb); have n4_ := Aside0.mk (KeepBut.trans (by repeat (first | (with_reducible first | exact HK.out | apply KeepBut.set_ | apply keep_drewN | apply keep_drew | apply keep_alloc | refine keep_far ?_ GW104.out _ | refine keep_far ?_ GW109.out _) | exact HK.out)) (KeepBut.of_below hb g none) (.inl rfl)); have n5_ := Aside0.mk (below_step (by repeat (first | (with_reducible first | exact HB.out | apply below_alloc | apply pw_below_drewN | apply below_drew1 | refine below_set ?_ (IsS81.ge HI0.out) | refine below_set ?_ GE104.out | refine below_set ?_ GE109.out) | exact HB.out)) hb); clear HI0; clear BK104; clear BK109; clear HK; clear HB; have HO114 := n0_; have HI0 := n1_; have BK104 := n2_; have BK109 := n3_; have HK := n4_; have HB := n5_; clear n0_ n1_ n2_ n3_ n4_ n5_; clear hb ho18) | ((with_reducible refine gate_callee (f := 48) rfl ?_); refine goesL_ (some 17) rfl rfl Try.func48 (by kernel_rfl) rfl #[.pointer (some ⟨g, 0, none⟩), .int .i64 3] rfl (by (try simp only [List.map_toArray, List.map_cons, List.map_nil]); first | done | rfl | (simp only [List.length_drop, List.length_take]; rfl)) ?_; (with_reducible refine (spec_l6Rd_pick.calls k g s0_0 t111 3 t115 t116 w0 _ ?side1 ?side2 A6.out).mono ?_); (case side1 => repeat (first | (with_reducible first | exact HI0.out | apply IsS81.alloc | apply IsS81.drewN | apply IsS81.drew | apply IsS81.set_1 | refine IsS81.far ?_ NB0_104.out _ | refine IsS81.far ?_ NB0_109.out _) | exact HI0.out)); (case side2 => repeat (first | (with_reducible first | exact HB.out | apply below_alloc | apply pw_below_drewN | apply below_drew1 | refine below_set ?_ (IsS81.ge HI0.out) | refine below_set ?_ GE104.out | refine below_set ?_ GE109.out) | exact HB.out)); rintro e w19 ⟨rfl, hi, hb, hk⟩; refine ⟨_, rfl, ?_⟩; have n0_ := Aside0.mk (KeepBut.blk hk (g' := gb104) (o := .cells #[.int .i64 0, .int .i64 0] 32 (0, 0)) (by (with_reducible repeat (first | refine blk_drewN ?_ _ | refine blk_drew ?_ | refine blk_alloc ?_ _)); exact BK104.out) NB104_0.out (by simp)); have n1_ := Aside0.mk (KeepBut.blk hk (g' := gb109) (o := .cells #[.int .i64 (wrap64 (t105 - 6)), .int .i64 (wrap64 (t107 - 6))] 32 (0, 0)) (by (with_reducible repeat (first | refine blk_drewN ?_ _ | refine blk_drew ?_ | refine blk_alloc ?_ _)); exact BK109.out) NB109_0.out (by simp)); have n2_ := Aside0.mk (Kd.R_mono (Kd.R_keep (IsS81.apart (show IsS81 w0 _ g s0_0 t111 from by repeat (first | (with_reducible first | exact HI0.out | apply IsS81.alloc | apply IsS81.drewN | apply IsS81.drew | apply IsS81.set_1 | refine IsS81.far ?_ NB0_104.out _ | refine IsS81.far ?_ NB0_109.out _) | exact HI0.out)) (by (with_reducible repeat (first | apply Kd.R_alloc | apply Kd.R_drewN | apply Kd.R_drew)); exact HO114.out) (by decide)) hk (fun _ h => h.2)) (fun _ h => h.1)); have n3_ := Aside0.mk (KeepBut.trans (by repeat (first | (with_reducible first | exact HK.out | apply KeepBut.set_ | apply keep_drewN | apply keep_drew | apply keep_alloc | refine keep_far ?_ GW104.out _ | refine keep_far ?_ GW109.out _) | exact HK.out)) hk (.inl rfl)); have n4_ := Aside0.mk (hb); have n5_ := Aside0.mk (hi); clear BK104; clear BK109; clear HO114; clear HK; clear HB; clear HI0; have BK104 := n0_; have BK109 := n1_; have HO114 := n2_; have HK := n3_; have HB := n4_; have HI0 := n5_; clear n0_ n1_ n2_ n3_ n4_ n5_; (try clear hb); (try clear hb2); (try clear hk); (try clear hi); obtain ⟨Ao20, co20, eo20⟩ := Kd.R_slice HO114.out; subst eo20; have p117 : 0 ≤ (t115 : Int) := of_decide_eq_true (by first | (with_reducible assumption) | assumption); have q117 : t115 < (y112.length : Int) := of_decide_eq_true (by first | (with_reducible assumption) | assumption); obtain ⟨ad117, e117, hx117_0⟩ := Kd.at_int (Kd.R_reads' HO114.out).2.2 t115 p117 q117; cases e117; replace p117 := eq_true p117; replace q117 := eq_true q117; have hcz21_0 : w19.cell? ⟨gb109, 0, none⟩ = some (.int .i64 (wrap64 (t105 - 6))) := (blk_cell BK109.out 0).trans rfl; have hcz21_1 : w19.cell? ⟨gb109, 1, none⟩ = some (.int .i64 (wrap64 (t107 - 6))) := (blk_cell BK109.out 1).trans rfl; have hfz21_0 := blk_frozen BK109.out 0; have hfz21_1 := blk_frozen BK109.out 1; have hnb22 := NB104_0.out; have hnc22 := NB0_104.out; have hcz23_0 : w19.cell? ⟨gb104, 0, none⟩ = some (.int .i64 0) := (blk_cell BK104.out 0).trans rfl; have hcz23_1 : w19.cell? ⟨gb104, 1, none⟩ = some (.int .i64 0) := (blk_cell BK104.out 1).trans rfl; have hfz23_0 := blk_frozen BK104.out 0; have hfz23_1 := blk_frozen BK104.out 1))
        refine bodyPost_ret (results_cell_row rfl _ _ gb104 32 #[.int .i64 (rd y112 t115), .int .i64 (wrap64 (t107 - 6))] (0, 0) _ rfl (by (with_reducible repeat (first | refine blk_drewN ?_ _ | refine blk_drew ?_ | refine blk_alloc ?_ _)); refine blk_put (cs := #[.int .i64 (rd y112 t115), .int .i64 0]) ?_ 1 _ rfl; (with_reducible repeat (first | refine blk_drewN ?_ _ | refine blk_drew ?_ | refine blk_alloc ?_ _)); refine blk_put (cs := #[.int .i64 0, .int .i64 0]) ?_ 0 _ rfl; (with_reducible repeat (first | refine blk_drewN ?_ _ | refine blk_drew ?_ | refine blk_alloc ?_ _)); refine blk_far ?_ NB104_109.out _; (with_reducible repeat (first | refine blk_drewN ?_ _ | refine blk_drew ?_ | refine blk_alloc ?_ _)); exact BK104.out) Try.underlying32 rfl (by kernel_rfl)) rfl ?_
        exact ⟨by first | rfl | (simp [errW_none, errW_some] <;> rfl) | (simp [*, errW_none, errW_some] <;> rfl), by repeat (first | (with_reducible first | exact HI0.out | apply IsS81.alloc | apply IsS81.drewN | apply IsS81.drew | apply IsS81.set_1 | refine IsS81.far ?_ NB0_104.out _ | refine IsS81.far ?_ NB0_109.out _) | exact HI0.out), by repeat (first | (with_reducible first | exact HB.out | apply below_alloc | apply pw_below_drewN | apply below_drew1 | refine below_set ?_ (IsS81.ge HI0.out) | refine below_set ?_ GE104.out | refine below_set ?_ GE109.out) | exact HB.out), by repeat (first | (with_reducible first | exact HK.out | apply KeepBut.set_ | apply keep_drewN | apply keep_drew | apply keep_alloc | refine keep_far ?_ GW104.out _ | refine keep_far ?_ GW109.out _) | exact HK.out)⟩
      · rw [if_neg c8] at H
        exact absurd H (by simp)
    · rw [if_neg c7] at H
      exact absurd H (by simp)
  · rw [if_neg c5] at H
    have c5b0 : (t110 == 0) = false := beq_eq_false_iff_ne.mpr c5
    have c5b1 : (t110 != 0) = true := bne_iff_ne.mpr c5
    by_cases c24 : t110 = 1
    · rw [if_pos c24] at H
      have c24b0 : (t110 == 1) = true := beq_iff_eq.mpr c24
      have c24b1 : (t110 != 1) = false := bne_eq_false_iff_eq.mpr c24
      clear c24
      replace H := Option.bind_eq_some_iff.mp H
      obtain ⟨⟨t118, t119⟩, A250, H⟩ := H
      replace H : ((spec_l6Rd_pick.f k s0_0 t119 200).bind fun bt120 => (some (wrap64 ((wrap64 (t118 * 50)) - 5000), wrap64 ((wrap64 (bt120.1 * 50)) - 5000), bt120.2))) = some (r1, r2, r3) := H
      have A25 := Aside0.mk A250
      clear A250
      replace H := Option.bind_eq_some_iff.mp H
      obtain ⟨⟨t120, t121⟩, A260, H⟩ := H
      replace H : (some (wrap64 ((wrap64 (t118 * 50)) - 5000), wrap64 ((wrap64 (t120 * 50)) - 5000), t121)) = some (r1, r2, r3) := H
      have A26 := Aside0.mk A260
      clear A260
      simp only [Option.some.injEq, Prod.mk.injEq] at H
      obtain ⟨rfl, rfl, rfl⟩ := H
      go_enter Try.func55, Try.ntmps55
      go_wp2_with (first | ((with_reducible refine gate_dst (N := 2) rfl ?_); refine box_event ?hg (N := 2) ?hd (cs := #[.int .i64 0, .int .i64 0]) (t := 32) ?hr ?_; (case hd => rfl); (case hg => rfl); (case hr => first | (go_simp; done) | (go_simp; rfl)); intro gb104 hg w27 hbox hb; have n0_ := Aside0.mk (IsS81.below (by repeat (first | (with_reducible first | exact HI0.out | apply IsS81.alloc | apply IsS81.drewN | apply IsS81.drew | apply IsS81.set_1) | exact HI0.out)) hb); have n1_ := Aside0.mk (KeepBut.trans (by repeat (first | (with_reducible first | exact HK.out | apply KeepBut.set_ | apply keep_drewN | apply keep_drew | apply keep_alloc) | exact HK.out)) (KeepBut.of_below hb g none) (.inl rfl)); have n2_ := Aside0.mk (below_step (by repeat (first | (with_reducible first | exact HB.out | apply below_alloc | apply pw_below_drewN | apply below_drew1 | refine below_set ?_ (IsS81.ge HI0.out)) | exact HB.out)) hb); have n3_ := Aside0.mk (hbox); have n4_ := Aside0.mk ((by rw [hg]; exact (keep_size (w := w) (g := g) (row := none) (by repeat (first | (with_reducible first | exact HK.out | apply KeepBut.set_ | apply keep_drewN | apply keep_drew | apply keep_alloc) | exact HK.out))) : w.heap.size ≤ gb104)); have n5_ := Aside0.mk ((Nat.le_trans HW0.out (by rw [hg]; exact (keep_size (w := w) (g := g) (row := none) (by repeat (first | (with_reducible first | exact HK.out | apply KeepBut.set_ | apply keep_drewN | apply keep_drew | apply keep_alloc) | exact HK.out))) : w.heap.size ≤ gb104) : w0.heap.size ≤ gb104)); have n6_ := Aside0.mk ((by rw [hg]; exact Nat.ne_of_lt (IsS81.lt (show IsS81 w0 _ g s0_0 s0_1 from by repeat (first | (with_reducible first | exact HI0.out | apply IsS81.alloc | apply IsS81.drewN | apply IsS81.drew | apply IsS81.set_1) | exact HI0.out))) : g ≠ gb104)); have n7_ := Aside0.mk ((by rw [hg]; exact Nat.ne_of_gt (IsS81.lt (show IsS81 w0 _ g s0_0 s0_1 from by repeat (first | (with_reducible first | exact HI0.out | apply IsS81.alloc | apply IsS81.drewN | apply IsS81.drew | apply IsS81.set_1) | exact HI0.out))) : gb104 ≠ g)); clear HI0; clear HK; clear HB; have HI0 := n0_; have HK := n1_; have HB := n2_; have BK104 := n3_; have GW104 := n4_; have GE104 := n5_; have NB0_104 := n6_; have NB104_0 := n7_; clear n0_ n1_ n2_ n3_ n4_ n5_ n6_ n7_; clear hb hbox hg) | ((with_reducible refine gate_callee (f := 48) rfl ?_); refine goesL_ (some 5) rfl rfl Try.func48 (by kernel_rfl) rfl #[.pointer (some ⟨g, 0, none⟩), .int .i64 13] rfl (by (try simp only [List.map_toArray, List.map_cons, List.map_nil]); first | done | rfl | (simp only [List.length_drop, List.length_take]; rfl)) ?_; (with_reducible refine (spec_l6Rd_pick.calls k g s0_0 s0_1 13 t105 t106 w0 _ ?side1 ?side2 A2.out).mono ?_); (case side1 => repeat (first | (with_reducible first | exact HI0.out | apply IsS81.alloc | apply IsS81.drewN | apply IsS81.drew | apply IsS81.set_1 | refine IsS81.far ?_ NB0_104.out _) | exact HI0.out)); (case side2 => repeat (first | (with_reducible first | exact HB.out | apply below_alloc | apply pw_below_drewN | apply below_drew1 | refine below_set ?_ (IsS81.ge HI0.out) | refine below_set ?_ GE104.out) | exact HB.out)); rintro e w28 ⟨rfl, hi, hb, hk⟩; refine ⟨_, rfl, ?_⟩; have n0_ := Aside0.mk (KeepBut.blk hk (g' := gb104) (o := .cells #[.int .i64 0, .int .i64 0] 32 (0, 0)) (by (with_reducible repeat (first | refine blk_drewN ?_ _ | refine blk_drew ?_ | refine blk_alloc ?_ _)); exact BK104.out) NB104_0.out (by simp)); have n1_ := Aside0.mk (KeepBut.trans (by repeat (first | (with_reducible first | exact HK.out | apply KeepBut.set_ | apply keep_drewN | apply keep_drew | apply keep_alloc | refine keep_far ?_ GW104.out _) | exact HK.out)) hk (.inl rfl)); have n2_ := Aside0.mk (hb); have n3_ := Aside0.mk (hi); clear BK104; clear HK; clear HB; clear HI0; have BK104 := n0_; have HK := n1_; have HB := n2_; have HI0 := n3_; clear n0_ n1_ n2_ n3_; (try clear hb); (try clear hb2); (try clear hk); (try clear hi)) | ((with_reducible refine gate_callee (f := 48) rfl ?_); refine goesL_ (some 8) rfl rfl Try.func48 (by kernel_rfl) rfl #[.pointer (some ⟨g, 0, none⟩), .int .i64 13] rfl (by (try simp only [List.map_toArray, List.map_cons, List.map_nil]); first | done | rfl | (simp only [List.length_drop, List.length_take]; rfl)) ?_; (with_reducible refine (spec_l6Rd_pick.calls k g s0_0 t106 13 t107 t108 w0 _ ?side1 ?side2 A3.out).mono ?_); (case side1 => repeat (first | (with_reducible first | exact HI0.out | apply IsS81.alloc | apply IsS81.drewN | apply IsS81.drew | apply IsS81.set_1 | refine IsS81.far ?_ NB0_104.out _) | exact HI0.out)); (case side2 => repeat (first | (with_reducible first | exact HB.out | apply below_alloc | apply pw_below_drewN | apply below_drew1 | refine below_set ?_ (IsS81.ge HI0.out) | refine below_set ?_ GE104.out) | exact HB.out)); rintro e w29 ⟨rfl, hi, hb, hk⟩; refine ⟨_, rfl, ?_⟩; have n0_ := Aside0.mk (KeepBut.blk hk (g' := gb104) (o := .cells #[.int .i64 0, .int .i64 0] 32 (0, 0)) (by (with_reducible repeat (first | refine blk_drewN ?_ _ | refine blk_drew ?_ | refine blk_alloc ?_ _)); exact BK104.out) NB104_0.out (by simp)); have n1_ := Aside0.mk (KeepBut.trans (by repeat (first | (with_reducible first | exact HK.out | apply KeepBut.set_ | apply keep_drewN | apply keep_drew | apply keep_alloc | refine keep_far ?_ GW104.out _) | exact HK.out)) hk (.inl rfl)); have n2_ := Aside0.mk (hb); have n3_ := Aside0.mk (hi); clear BK104; clear HK; clear HB; clear HI0; have BK104 := n0_; have HK := n1_; have HB := n2_; have HI0 := n3_; clear n0_ n1_ n2_ n3_; (try clear hb); (try clear hb2); (try clear hk); (try clear hi)) | ((with_reducible refine gate_dst (N := 3) rfl ?_); refine box_event ?hg (N := 3) ?hd (cs := #[.int .i64 0, .int .i64 0]) (t := 32) ?hr ?_; (case hd => rfl); (case hg => rfl); (case hr => first | (go_simp; done) | (go_simp; rfl)); intro gb109 hg w30 hbox hb; have n0_ := Aside0.mk (IsS81.below (by repeat (first | (with_reducible first | exact HI0.out | apply IsS81.alloc | apply IsS81.drewN | apply IsS81.drew | apply IsS81.set_1 | refine IsS81.far ?_ NB0_104.out _) | exact HI0.out)) hb); have n1_ := Aside0.mk (blk_below (g := gb104) (o := .cells #[.int .i64 0, .int .i64 0] 32 (0, 0)) (by (with_reducible repeat (first | refine blk_drewN ?_ _ | refine blk_drew ?_ | refine blk_alloc ?_ _)); exact BK104.out) hb); have n2_ := Aside0.mk (KeepBut.trans (by repeat (first | (with_reducible first | exact HK.out | apply KeepBut.set_ | apply keep_drewN | apply keep_drew | apply keep_alloc | refine keep_far ?_ GW104.out _) | exact HK.out)) (KeepBut.of_below hb g none) (.inl rfl)); have n3_ := Aside0.mk (below_step (by repeat (first | (with_reducible first | exact HB.out | apply below_alloc | apply pw_below_drewN | apply below_drew1 | refine below_set ?_ (IsS81.ge HI0.out) | refine below_set ?_ GE104.out) | exact HB.out)) hb); have n4_ := Aside0.mk (hbox); have n5_ := Aside0.mk ((by rw [hg]; exact (keep_size (w := w) (g := g) (row := none) (by repeat (first | (with_reducible first | exact HK.out | apply KeepBut.set_ | apply keep_drewN | apply keep_drew | apply keep_alloc | refine keep_far ?_ GW104.out _) | exact HK.out))) : w.heap.size ≤ gb109)); have n6_ := Aside0.mk ((Nat.le_trans HW0.out (by rw [hg]; exact (keep_size (w := w) (g := g) (row := none) (by repeat (first | (with_reducible first | exact HK.out | apply KeepBut.set_ | apply keep_drewN | apply keep_drew | apply keep_alloc | refine keep_far ?_ GW104.out _) | exact HK.out))) : w.heap.size ≤ gb109) : w0.heap.size ≤ gb109)); have n7_ := Aside0.mk ((by rw [hg]; exact Nat.ne_of_lt (blk_lt (g := gb104) (o := .cells #[.int .i64 0, .int .i64 0] 32 (0, 0)) (by (with_reducible repeat (first | refine blk_drewN ?_ _ | refine blk_drew ?_ | refine blk_alloc ?_ _)); exact BK104.out)) : gb104 ≠ gb109)); have n8_ := Aside0.mk ((by rw [hg]; exact Nat.ne_of_gt (blk_lt (g := gb104) (o := .cells #[.int .i64 0, .int .i64 0] 32 (0, 0)) (by (with_reducible repeat (first | refine blk_drewN ?_ _ | refine blk_drew ?_ | refine blk_alloc ?_ _)); exact BK104.out)) : gb109 ≠ gb104)); have n9_ := Aside0.mk ((by rw [hg]; exact Nat.ne_of_lt (IsS81.lt (show IsS81 w0 _ g s0_0 t108 from by repeat (first | (with_reducible first | exact HI0.out | apply IsS81.alloc | apply IsS81.drewN | apply IsS81.drew | apply IsS81.set_1 | refine IsS81.far ?_ NB0_104.out _) | exact HI0.out))) : g ≠ gb109)); have n10_ := Aside0.mk ((by rw [hg]; exact Nat.ne_of_gt (IsS81.lt (show IsS81 w0 _ g s0_0 t108 from by repeat (first | (with_reducible first | exact HI0.out | apply IsS81.alloc | apply IsS81.drewN | apply IsS81.drew | apply IsS81.set_1 | refine IsS81.far ?_ NB0_104.out _) | exact HI0.out))) : gb109 ≠ g)); clear HI0; clear BK104; clear HK; clear HB; have HI0 := n0_; have BK104 := n1_; have HK := n2_; have HB := n3_; have BK109 := n4_; have GW109 := n5_; have GE109 := n6_; have NB104_109 := n7_; have NB109_104 := n8_; have NB0_109 := n9_; have NB109_0 := n10_; clear n0_ n1_ n2_ n3_ n4_ n5_ n6_ n7_ n8_ n9_ n10_; clear hb hbox hg; have hnb31 := NB109_104.out; have hnc31 := NB104_109.out; have hnb32 := NB109_0.out; have hnc32 := NB0_109.out; have hcz33_0 : w30.cell? ⟨gb109, 0, none⟩ = some (.int .i64 0) := (blk_cell BK109.out 0).trans rfl; have hcz33_1 : w30.cell? ⟨gb109, 1, none⟩ = some (.int .i64 0) := (blk_cell BK109.out 1).trans rfl; have hfz33_0 := blk_frozen BK109.out 0; have hfz33_1 := blk_frozen BK109.out 1) | ((with_reducible refine gate_callee (f := 48) rfl ?_); refine goesL_ (some 12) rfl rfl Try.func48 (by kernel_rfl) rfl #[.pointer (some ⟨g, 0, none⟩), .int .i64 40] rfl (by (try simp only [List.map_toArray, List.map_cons, List.map_nil]); first | done | rfl | (simp only [List.length_drop, List.length_take]; rfl)) ?_; (with_reducible refine (spec_l6Rd_pick.calls k g s0_0 t108 40 t110 t111 w0 _ ?side1 ?side2 A4.out).mono ?_); (case side1 => repeat (first | (with_reducible first | exact HI0.out | apply IsS81.alloc | apply IsS81.drewN | apply IsS81.drew | apply IsS81.set_1 | refine IsS81.far ?_ NB0_104.out _ | refine IsS81.far ?_ NB0_109.out _) | exact HI0.out)); (case side2 => repeat (first | (with_reducible first | exact HB.out | apply below_alloc | apply pw_below_drewN | apply below_drew1 | refine below_set ?_ (IsS81.ge HI0.out) | refine below_set ?_ GE104.out | refine below_set ?_ GE109.out) | exact HB.out)); rintro e w34 ⟨rfl, hi, hb, hk⟩; refine ⟨_, rfl, ?_⟩; have n0_ := Aside0.mk (KeepBut.blk hk (g' := gb104) (o := .cells #[.int .i64 0, .int .i64 0] 32 (0, 0)) (by (with_reducible repeat (first | refine blk_drewN ?_ _ | refine blk_drew ?_ | refine blk_alloc ?_ _)); refine blk_far ?_ NB104_109.out _; (with_reducible repeat (first | refine blk_drewN ?_ _ | refine blk_drew ?_ | refine blk_alloc ?_ _)); refine blk_far ?_ NB104_109.out _; (with_reducible repeat (first | refine blk_drewN ?_ _ | refine blk_drew ?_ | refine blk_alloc ?_ _)); exact BK104.out) NB104_0.out (by simp)); have n1_ := Aside0.mk (KeepBut.blk hk (g' := gb109) (o := .cells #[.int .i64 (wrap64 (t105 - 6)), .int .i64 (wrap64 (t107 - 6))] 32 (0, 0)) (by (with_reducible repeat (first | refine blk_drewN ?_ _ | refine blk_drew ?_ | refine blk_alloc ?_ _)); refine blk_put (cs := #[.int .i64 (wrap64 (t105 - 6)), .int .i64 0]) ?_ 1 _ rfl; (with_reducible repeat (first | refine blk_drewN ?_ _ | refine blk_drew ?_ | refine blk_alloc ?_ _)); refine blk_put (cs := #[.int .i64 0, .int .i64 0]) ?_ 0 _ rfl; (with_reducible repeat (first | refine blk_drewN ?_ _ | refine blk_drew ?_ | refine blk_alloc ?_ _)); exact BK109.out) NB109_0.out (by simp)); have n2_ := Aside0.mk (KeepBut.trans (by repeat (first | (with_reducible first | exact HK.out | apply KeepBut.set_ | apply keep_drewN | apply keep_drew | apply keep_alloc | refine keep_far ?_ GW104.out _ | refine keep_far ?_ GW109.out _) | exact HK.out)) hk (.inl rfl)); have n3_ := Aside0.mk (hb); have n4_ := Aside0.mk (hi); clear BK104; clear BK109; clear HK; clear HB; clear HI0; have BK104 := n0_; have BK109 := n1_; have HK := n2_; have HB := n3_; have HI0 := n4_; clear n0_ n1_ n2_ n3_ n4_; (try clear hb); (try clear hb2); (try clear hk); (try clear hi)) | ((with_reducible refine gate_callee (f := 48) rfl ?_); refine goesL_ (some 24) rfl rfl Try.func48 (by kernel_rfl) rfl #[.pointer (some ⟨g, 0, none⟩), .int .i64 200] rfl (by (try simp only [List.map_toArray, List.map_cons, List.map_nil]); first | done | rfl | (simp only [List.length_drop, List.length_take]; rfl)) ?_; (with_reducible refine (spec_l6Rd_pick.calls k g s0_0 t111 200 t118 t119 w0 _ ?side1 ?side2 A25.out).mono ?_); (case side1 => repeat (first | (with_reducible first | exact HI0.out | apply IsS81.alloc | apply IsS81.drewN | apply IsS81.drew | apply IsS81.set_1 | refine IsS81.far ?_ NB0_104.out _ | refine IsS81.far ?_ NB0_109.out _) | exact HI0.out)); (case side2 => repeat (first | (with_reducible first | exact HB.out | apply below_alloc | apply pw_below_drewN | apply below_drew1 | refine below_set ?_ (IsS81.ge HI0.out) | refine below_set ?_ GE104.out | refine below_set ?_ GE109.out) | exact HB.out)); rintro e w35 ⟨rfl, hi, hb, hk⟩; refine ⟨_, rfl, ?_⟩; have n0_ := Aside0.mk (KeepBut.blk hk (g' := gb104) (o := .cells #[.int .i64 0, .int .i64 0] 32 (0, 0)) (by (with_reducible repeat (first | refine blk_drewN ?_ _ | refine blk_drew ?_ | refine blk_alloc ?_ _)); exact BK104.out) NB104_0.out (by simp)); have n1_ := Aside0.mk (KeepBut.blk hk (g' := gb109) (o := .cells #[.int .i64 (wrap64 (t105 - 6)), .int .i64 (wrap64 (t107 - 6))] 32 (0, 0)) (by (with_reducible repeat (first | refine blk_drewN ?_ _ | refine blk_drew ?_ | refine blk_alloc ?_ _)); exact BK109.out) NB109_0.out (by simp)); have n2_ := Aside0.mk (KeepBut.trans (by repeat (first | (with_reducible first | exact HK.out | apply KeepBut.set_ | apply keep_drewN | apply keep_drew | apply keep_alloc | refine keep_far ?_ GW104.out _ | refine keep_far ?_ GW109.out _) | exact HK.out)) hk (.inl rfl)); have n3_ := Aside0.mk (hb); have n4_ := Aside0.mk (hi); clear BK104; clear BK109; clear HK; clear HB; clear HI0; have BK104 := n0_; have BK109 := n1_; have HK := n2_; have HB := n3_; have HI0 := n4_; clear n0_ n1_ n2_ n3_ n4_; (try clear hb); (try clear hb2); (try clear hk); (try clear hi)) | ((with_reducible refine gate_callee (f := 48) rfl ?_); refine goesL_ (some 28) rfl rfl Try.func48 (by kernel_rfl) rfl #[.pointer (some ⟨g, 0, none⟩), .int .i64 200] rfl (by (try simp only [List.map_toArray, List.map_cons, List.map_nil]); first | done | rfl | (simp only [List.length_drop, List.length_take]; rfl)) ?_; (with_reducible refine (spec_l6Rd_pick.calls k g s0_0 t119 200 t120 t121 w0 _ ?side1 ?side2 A26.out).mono ?_); (case side1 => repeat (first | (with_reducible first | exact HI0.out | apply IsS81.alloc | apply IsS81.drewN | apply IsS81.drew | apply IsS81.set_1 | refine IsS81.far ?_ NB0_104.out _ | refine IsS81.far ?_ NB0_109.out _) | exact HI0.out)); (case side2 => repeat (first | (with_reducible first | exact HB.out | apply below_alloc | apply pw_below_drewN | apply below_drew1 | refine below_set ?_ (IsS81.ge HI0.out) | refine below_set ?_ GE104.out | refine below_set ?_ GE109.out) | exact HB.out)); rintro e w36 ⟨rfl, hi, hb, hk⟩; refine ⟨_, rfl, ?_⟩; have n0_ := Aside0.mk (KeepBut.blk hk (g' := gb104) (o := .cells #[.int .i64 0, .int .i64 0] 32 (0, 0)) (by (with_reducible repeat (first | refine blk_drewN ?_ _ | refine blk_drew ?_ | refine blk_alloc ?_ _)); exact BK104.out) NB104_0.out (by simp)); have n1_ := Aside0.mk (KeepBut.blk hk (g' := gb109) (o := .cells #[.int .i64 (wrap64 (t105 - 6)), .int .i64 (wrap64 (t107 - 6))] 32 (0, 0)) (by (with_reducible repeat (first | refine blk_drewN ?_ _ | refine blk_drew ?_ | refine blk_alloc ?_ _)); exact BK109.out) NB109_0.out (by simp)); have n2_ := Aside0.mk (KeepBut.trans (by repeat (first | (with_reducible first | exact HK.out | apply KeepBut.set_ | apply keep_drewN | apply keep_drew | apply keep_alloc | refine keep_far ?_ GW104.out _ | refine keep_far ?_ GW109.out _) | exact HK.out)) hk (.inl rfl)); have n3_ := Aside0.mk (hb); have n4_ := Aside0.mk (hi); clear BK104; clear BK109; clear HK; clear HB; clear HI0; have BK104 := n0_; have BK109 := n1_; have HK := n2_; have HB := n3_; have HI0 := n4_; clear n0_ n1_ n2_ n3_ n4_; (try clear hb); (try clear hb2); (try clear hk); (try clear hi); have hnb37 := NB104_0.out; have hnc37 := NB0_104.out; have hcz38_0 : w36.cell? ⟨gb104, 0, none⟩ = some (.int .i64 0) := (blk_cell BK104.out 0).trans rfl; have hcz38_1 : w36.cell? ⟨gb104, 1, none⟩ = some (.int .i64 0) := (blk_cell BK104.out 1).trans rfl; have hfz38_0 := blk_frozen BK104.out 0; have hfz38_1 := blk_frozen BK104.out 1))
      refine bodyPost_ret (results_cell_row rfl _ _ gb104 32 #[.int .i64 (wrap64 ((wrap64 (t118 * 50)) - 5000)), .int .i64 (wrap64 ((wrap64 (t120 * 50)) - 5000))] (0, 0) _ rfl (by (with_reducible repeat (first | refine blk_drewN ?_ _ | refine blk_drew ?_ | refine blk_alloc ?_ _)); refine blk_put (cs := #[.int .i64 (wrap64 ((wrap64 (t118 * 50)) - 5000)), .int .i64 0]) ?_ 1 _ rfl; (with_reducible repeat (first | refine blk_drewN ?_ _ | refine blk_drew ?_ | refine blk_alloc ?_ _)); refine blk_put (cs := #[.int .i64 0, .int .i64 0]) ?_ 0 _ rfl; (with_reducible repeat (first | refine blk_drewN ?_ _ | refine blk_drew ?_ | refine blk_alloc ?_ _)); exact BK104.out) Try.underlying32 rfl (by kernel_rfl)) rfl ?_
      exact ⟨by first | rfl | (simp [errW_none, errW_some] <;> rfl) | (simp [*, errW_none, errW_some] <;> rfl), by repeat (first | (with_reducible first | exact HI0.out | apply IsS81.alloc | apply IsS81.drewN | apply IsS81.drew | apply IsS81.set_1 | refine IsS81.far ?_ NB0_104.out _ | refine IsS81.far ?_ NB0_109.out _) | exact HI0.out), by repeat (first | (with_reducible first | exact HB.out | apply below_alloc | apply pw_below_drewN | apply below_drew1 | refine below_set ?_ (IsS81.ge HI0.out) | refine below_set ?_ GE104.out | refine below_set ?_ GE109.out) | exact HB.out), by repeat (first | (with_reducible first | exact HK.out | apply KeepBut.set_ | apply keep_drewN | apply keep_drew | apply keep_alloc | refine keep_far ?_ GW104.out _ | refine keep_far ?_ GW109.out _) | exact HK.out)⟩
    · rw [if_neg c24] at H
      have c24b0 : (t110 == 1) = false := beq_eq_false_iff_ne.mpr c24
      have c24b1 : (t110 != 1) = true := bne_iff_ne.mpr c24
      simp only [Option.some.injEq, Prod.mk.injEq] at H
      obtain ⟨rfl, rfl, rfl⟩ := H
      go_enter Try.func55, Try.ntmps55
      go_wp2_with (first | ((with_reducible refine gate_dst (N := 2) rfl ?_); refine box_event ?hg (N := 2) ?hd (cs := #[.int .i64 0, .int .i64 0]) (t := 32) ?hr ?_; (case hd => rfl); (case hg => rfl); (case hr => first | (go_simp; done) | (go_simp; rfl)); intro gb104 hg w39 hbox hb; have n0_ := Aside0.mk (IsS81.below (by repeat (first | (with_reducible first | exact HI0.out | apply IsS81.alloc | apply IsS81.drewN | apply IsS81.drew | apply IsS81.set_1) | exact HI0.out)) hb); have n1_ := Aside0.mk (KeepBut.trans (by repeat (first | (with_reducible first | exact HK.out | apply KeepBut.set_ | apply keep_drewN | apply keep_drew | apply keep_alloc) | exact HK.out)) (KeepBut.of_below hb g none) (.inl rfl)); have n2_ := Aside0.mk (below_step (by repeat (first | (with_reducible first | exact HB.out | apply below_alloc | apply pw_below_drewN | apply below_drew1 | refine below_set ?_ (IsS81.ge HI0.out)) | exact HB.out)) hb); have n3_ := Aside0.mk (hbox); have n4_ := Aside0.mk ((by rw [hg]; exact (keep_size (w := w) (g := g) (row := none) (by repeat (first | (with_reducible first | exact HK.out | apply KeepBut.set_ | apply keep_drewN | apply keep_drew | apply keep_alloc) | exact HK.out))) : w.heap.size ≤ gb104)); have n5_ := Aside0.mk ((Nat.le_trans HW0.out (by rw [hg]; exact (keep_size (w := w) (g := g) (row := none) (by repeat (first | (with_reducible first | exact HK.out | apply KeepBut.set_ | apply keep_drewN | apply keep_drew | apply keep_alloc) | exact HK.out))) : w.heap.size ≤ gb104) : w0.heap.size ≤ gb104)); have n6_ := Aside0.mk ((by rw [hg]; exact Nat.ne_of_lt (IsS81.lt (show IsS81 w0 _ g s0_0 s0_1 from by repeat (first | (with_reducible first | exact HI0.out | apply IsS81.alloc | apply IsS81.drewN | apply IsS81.drew | apply IsS81.set_1) | exact HI0.out))) : g ≠ gb104)); have n7_ := Aside0.mk ((by rw [hg]; exact Nat.ne_of_gt (IsS81.lt (show IsS81 w0 _ g s0_0 s0_1 from by repeat (first | (with_reducible first | exact HI0.out | apply IsS81.alloc | apply IsS81.drewN | apply IsS81.drew | apply IsS81.set_1) | exact HI0.out))) : gb104 ≠ g)); clear HI0; clear HK; clear HB; have HI0 := n0_; have HK := n1_; have HB := n2_; have BK104 := n3_; have GW104 := n4_; have GE104 := n5_; have NB0_104 := n6_; have NB104_0 := n7_; clear n0_ n1_ n2_ n3_ n4_ n5_ n6_ n7_; clear hb hbox hg) | ((with_reducible refine gate_callee (f := 48) rfl ?_); refine goesL_ (some 5) rfl rfl Try.func48 (by kernel_rfl) rfl #[.pointer (some ⟨g, 0, none⟩), .int .i64 13] rfl (by (try simp only [List.map_toArray, List.map_cons, List.map_nil]); first | done | rfl | (simp only [List.length_drop, List.length_take]; rfl)) ?_; (with_reducible refine (spec_l6Rd_pick.calls k g s0_0 s0_1 13 t105 t106 w0 _ ?side1 ?side2 A2.out).mono ?_); (case side1 => repeat (first | (with_reducible first | exact HI0.out | apply IsS81.alloc | apply IsS81.drewN | apply IsS81.drew | apply IsS81.set_1 | refine IsS81.far ?_ NB0_104.out _) | exact HI0.out)); (case side2 => repeat (first | (with_reducible first | exact HB.out | apply below_alloc | apply pw_below_drewN | apply below_drew1 | refine below_set ?_ (IsS81.ge HI0.out) | refine below_set ?_ GE104.out) | exact HB.out)); rintro e w40 ⟨rfl, hi, hb, hk⟩; refine ⟨_, rfl, ?_⟩; have n0_ := Aside0.mk (KeepBut.blk hk (g' := gb104) (o := .cells #[.int .i64 0, .int .i64 0] 32 (0, 0)) (by (with_reducible repeat (first | refine blk_drewN ?_ _ | refine blk_drew ?_ | refine blk_alloc ?_ _)); exact BK104.out) NB104_0.out (by simp)); have n1_ := Aside0.mk (KeepBut.trans (by repeat (first | (with_reducible first | exact HK.out | apply KeepBut.set_ | apply keep_drewN | apply keep_drew | apply keep_alloc | refine keep_far ?_ GW104.out _) | exact HK.out)) hk (.inl rfl)); have n2_ := Aside0.mk (hb); have n3_ := Aside0.mk (hi); clear BK104; clear HK; clear HB; clear HI0; have BK104 := n0_; have HK := n1_; have HB := n2_; have HI0 := n3_; clear n0_ n1_ n2_ n3_; (try clear hb); (try clear hb2); (try clear hk); (try clear hi)) | ((with_reducible refine gate_callee (f := 48) rfl ?_); refine goesL_ (some 8) rfl rfl Try.func48 (by kernel_rfl) rfl #[.pointer (some ⟨g, 0, none⟩), .int .i64 13] rfl (by (try simp only [List.map_toArray, List.map_cons, List.map_nil]); first | done | rfl | (simp only [List.length_drop, List.length_take]; rfl)) ?_; (with_reducible refine (spec_l6Rd_pick.calls k g s0_0 t106 13 t107 t108 w0 _ ?side1 ?side2 A3.out).mono ?_); (case side1 => repeat (first | (with_reducible first | exact HI0.out | apply IsS81.alloc | apply IsS81.drewN | apply IsS81.drew | apply IsS81.set_1 | refine IsS81.far ?_ NB0_104.out _) | exact HI0.out)); (case side2 => repeat (first | (with_reducible first | exact HB.out | apply below_alloc | apply pw_below_drewN | apply below_drew1 | refine below_set ?_ (IsS81.ge HI0.out) | refine below_set ?_ GE104.out) | exact HB.out)); rintro e w41 ⟨rfl, hi, hb, hk⟩; refine ⟨_, rfl, ?_⟩; have n0_ := Aside0.mk (KeepBut.blk hk (g' := gb104) (o := .cells #[.int .i64 0, .int .i64 0] 32 (0, 0)) (by (with_reducible repeat (first | refine blk_drewN ?_ _ | refine blk_drew ?_ | refine blk_alloc ?_ _)); exact BK104.out) NB104_0.out (by simp)); have n1_ := Aside0.mk (KeepBut.trans (by repeat (first | (with_reducible first | exact HK.out | apply KeepBut.set_ | apply keep_drewN | apply keep_drew | apply keep_alloc | refine keep_far ?_ GW104.out _) | exact HK.out)) hk (.inl rfl)); have n2_ := Aside0.mk (hb); have n3_ := Aside0.mk (hi); clear BK104; clear HK; clear HB; clear HI0; have BK104 := n0_; have HK := n1_; have HB := n2_; have HI0 := n3_; clear n0_ n1_ n2_ n3_; (try clear hb); (try clear hb2); (try clear hk); (try clear hi)) | ((with_reducible refine gate_dst (N := 3) rfl ?_); refine box_event ?hg (N := 3) ?hd (cs := #[.int .i64 0, .int .i64 0]) (t := 32) ?hr ?_; (case hd => rfl); (case hg => rfl); (case hr => first | (go_simp; done) | (go_simp; rfl)); intro gb109 hg w42 hbox hb; have n0_ := Aside0.mk (IsS81.below (by repeat (first | (with_reducible first | exact HI0.out | apply IsS81.alloc | apply IsS81.drewN | apply IsS81.drew | apply IsS81.set_1 | refine IsS81.far ?_ NB0_104.out _) | exact HI0.out)) hb); have n1_ := Aside0.mk (blk_below (g := gb104) (o := .cells #[.int .i64 0, .int .i64 0] 32 (0, 0)) (by (with_reducible repeat (first | refine blk_drewN ?_ _ | refine blk_drew ?_ | refine blk_alloc ?_ _)); exact BK104.out) hb); have n2_ := Aside0.mk (KeepBut.trans (by repeat (first | (with_reducible first | exact HK.out | apply KeepBut.set_ | apply keep_drewN | apply keep_drew | apply keep_alloc | refine keep_far ?_ GW104.out _) | exact HK.out)) (KeepBut.of_below hb g none) (.inl rfl)); have n3_ := Aside0.mk (below_step (by repeat (first | (with_reducible first | exact HB.out | apply below_alloc | apply pw_below_drewN | apply below_drew1 | refine below_set ?_ (IsS81.ge HI0.out) | refine below_set ?_ GE104.out) | exact HB.out)) hb); have n4_ := Aside0.mk (hbox); have n5_ := Aside0.mk ((by rw [hg]; exact (keep_size (w := w) (g := g) (row := none) (by repeat (first | (with_reducible first | exact HK.out | apply KeepBut.set_ | apply keep_drewN | apply keep_drew | apply keep_alloc | refine keep_far ?_ GW104.out _) | exact HK.out))) : w.heap.size ≤ gb109)); have n6_ := Aside0.mk ((Nat.le_trans HW0.out (by rw [hg]; exact (keep_size (w := w) (g := g) (row := none) (by repeat (first | (with_reducible first | exact HK.out | apply KeepBut.set_ | apply keep_drewN | apply keep_drew | apply keep_alloc | refine keep_far ?_ GW104.out _) | exact HK.out))) : w.heap.size ≤ gb109) : w0.heap.size ≤ gb109)); have n7_ := Aside0.mk ((by rw [hg]; exact Nat.ne_of_lt (blk_lt (g := gb104) (o := .cells #[.int .i64 0, .int .i64 0] 32 (0, 0)) (by (with_reducible repeat (first | refine blk_drewN ?_ _ | refine blk_drew ?_ | refine blk_alloc ?_ _)); exact BK104.out)) : gb104 ≠ gb109)); have n8_ := Aside0.mk ((by rw [hg]; exact Nat.ne_of_gt (blk_lt (g := gb104) (o := .cells #[.int .i64 0, .int .i64 0] 32 (0, 0)) (by (with_reducible repeat (first | refine blk_drewN ?_ _ | refine blk_drew ?_ | refine blk_alloc ?_ _)); exact BK104.out)) : gb109 ≠ gb104)); have n9_ := Aside0.mk ((by rw [hg]; exact Nat.ne_of_lt (IsS81.lt (show IsS81 w0 _ g s0_0 t108 from by repeat (first | (with_reducible first | exact HI0.out | apply IsS81.alloc | apply IsS81.drewN | apply IsS81.drew | apply IsS81.set_1 | refine IsS81.far ?_ NB0_104.out _) | exact HI0.out))) : g ≠ gb109)); have n10_ := Aside0.mk ((by rw [hg]; exact Nat.ne_of_gt (IsS81.lt (show IsS81 w0 _ g s0_0 t108 from by repeat (first | (with_reducible first | exact HI0.out | apply IsS81.alloc | apply IsS81.drewN | apply IsS81.drew | apply IsS81.set_1 | refine IsS81.far ?_ NB0_104.out _) | exact HI0.out))) : gb109 ≠ g)); clear HI0; clear BK104; clear HK; clear HB; have HI0 := n0_; have BK104 := n1_; have HK := n2_; have HB := n3_; have BK109 := n4_; have GW109 := n5_; have GE109 := n6_; have NB104_109 := n7_; have NB109_104 := n8_; have NB0_109 := n9_; have NB109_0 := n10_; clear n0_ n1_ n2_ n3_ n4_ n5_ n6_ n7_ n8_ n9_ n10_; clear hb hbox hg; have hnb43 := NB109_104.out; have hnc43 := NB104_109.out; have hnb44 := NB109_0.out; have hnc44 := NB0_109.out; have hcz45_0 : w42.cell? ⟨gb109, 0, none⟩ = some (.int .i64 0) := (blk_cell BK109.out 0).trans rfl; have hcz45_1 : w42.cell? ⟨gb109, 1, none⟩ = some (.int .i64 0) := (blk_cell BK109.out 1).trans rfl; have hfz45_0 := blk_frozen BK109.out 0; have hfz45_1 := blk_frozen BK109.out 1) | ((with_reducible refine gate_callee (f := 48) rfl ?_); refine goesL_ (some 12) rfl rfl Try.func48 (by kernel_rfl) rfl #[.pointer (some ⟨g, 0, none⟩), .int .i64 40] rfl (by (try simp only [List.map_toArray, List.map_cons, List.map_nil]); first | done | rfl | (simp only [List.length_drop, List.length_take]; rfl)) ?_; (with_reducible refine (spec_l6Rd_pick.calls k g s0_0 t108 40 t110 t111 w0 _ ?side1 ?side2 A4.out).mono ?_); (case side1 => repeat (first | (with_reducible first | exact HI0.out | apply IsS81.alloc | apply IsS81.drewN | apply IsS81.drew | apply IsS81.set_1 | refine IsS81.far ?_ NB0_104.out _ | refine IsS81.far ?_ NB0_109.out _) | exact HI0.out)); (case side2 => repeat (first | (with_reducible first | exact HB.out | apply below_alloc | apply pw_below_drewN | apply below_drew1 | refine below_set ?_ (IsS81.ge HI0.out) | refine below_set ?_ GE104.out | refine below_set ?_ GE109.out) | exact HB.out)); rintro e w46 ⟨rfl, hi, hb, hk⟩; refine ⟨_, rfl, ?_⟩; have n0_ := Aside0.mk (KeepBut.blk hk (g' := gb104) (o := .cells #[.int .i64 0, .int .i64 0] 32 (0, 0)) (by (with_reducible repeat (first | refine blk_drewN ?_ _ | refine blk_drew ?_ | refine blk_alloc ?_ _)); refine blk_far ?_ NB104_109.out _; (with_reducible repeat (first | refine blk_drewN ?_ _ | refine blk_drew ?_ | refine blk_alloc ?_ _)); refine blk_far ?_ NB104_109.out _; (with_reducible repeat (first | refine blk_drewN ?_ _ | refine blk_drew ?_ | refine blk_alloc ?_ _)); exact BK104.out) NB104_0.out (by simp)); have n1_ := Aside0.mk (KeepBut.blk hk (g' := gb109) (o := .cells #[.int .i64 (wrap64 (t105 - 6)), .int .i64 (wrap64 (t107 - 6))] 32 (0, 0)) (by (with_reducible repeat (first | refine blk_drewN ?_ _ | refine blk_drew ?_ | refine blk_alloc ?_ _)); refine blk_put (cs := #[.int .i64 (wrap64 (t105 - 6)), .int .i64 0]) ?_ 1 _ rfl; (with_reducible repeat (first | refine blk_drewN ?_ _ | refine blk_drew ?_ | refine blk_alloc ?_ _)); refine blk_put (cs := #[.int .i64 0, .int .i64 0]) ?_ 0 _ rfl; (with_reducible repeat (first | refine blk_drewN ?_ _ | refine blk_drew ?_ | refine blk_alloc ?_ _)); exact BK109.out) NB109_0.out (by simp)); have n2_ := Aside0.mk (KeepBut.trans (by repeat (first | (with_reducible first | exact HK.out | apply KeepBut.set_ | apply keep_drewN | apply keep_drew | apply keep_alloc | refine keep_far ?_ GW104.out _ | refine keep_far ?_ GW109.out _) | exact HK.out)) hk (.inl rfl)); have n3_ := Aside0.mk (hb); have n4_ := Aside0.mk (hi); clear BK104; clear BK109; clear HK; clear HB; clear HI0; have BK104 := n0_; have BK109 := n1_; have HK := n2_; have HB := n3_; have HI0 := n4_; clear n0_ n1_ n2_ n3_ n4_; (try clear hb); (try clear hb2); (try clear hk); (try clear hi); have hcz47_0 : w46.cell? ⟨gb109, 0, none⟩ = some (.int .i64 (wrap64 (t105 - 6))) := (blk_cell BK109.out 0).trans rfl; have hcz47_1 : w46.cell? ⟨gb109, 1, none⟩ = some (.int .i64 (wrap64 (t107 - 6))) := (blk_cell BK109.out 1).trans rfl; have hfz47_0 := blk_frozen BK109.out 0; have hfz47_1 := blk_frozen BK109.out 1; have hnb48 := NB104_0.out; have hnc48 := NB0_104.out; have hcz49_0 : w46.cell? ⟨gb104, 0, none⟩ = some (.int .i64 0) := (blk_cell BK104.out 0).trans rfl; have hcz49_1 : w46.cell? ⟨gb104, 1, none⟩ = some (.int .i64 0) := (blk_cell BK104.out 1).trans rfl; have hfz49_0 := blk_frozen BK104.out 0; have hfz49_1 := blk_frozen BK104.out 1))
      refine bodyPost_ret (results_cell_row rfl _ _ gb104 32 #[.int .i64 (wrap64 (t105 - 6)), .int .i64 (wrap64 (t107 - 6))] (0, 0) _ rfl (by (with_reducible repeat (first | refine blk_drewN ?_ _ | refine blk_drew ?_ | refine blk_alloc ?_ _)); refine blk_put (cs := #[.int .i64 (wrap64 (t105 - 6)), .int .i64 0]) ?_ 1 _ rfl; (with_reducible repeat (first | refine blk_drewN ?_ _ | refine blk_drew ?_ | refine blk_alloc ?_ _)); refine blk_put (cs := #[.int .i64 0, .int .i64 0]) ?_ 0 _ rfl; (with_reducible repeat (first | refine blk_drewN ?_ _ | refine blk_drew ?_ | refine blk_alloc ?_ _)); exact BK104.out) Try.underlying32 rfl (by kernel_rfl)) rfl ?_
      exact ⟨by first | rfl | (simp [errW_none, errW_some] <;> rfl) | (simp [*, errW_none, errW_some] <;> rfl), by repeat (first | (with_reducible first | exact HI0.out | apply IsS81.alloc | apply IsS81.drewN | apply IsS81.drew | apply IsS81.set_1 | refine IsS81.far ?_ NB0_104.out _ | refine IsS81.far ?_ NB0_109.out _) | exact HI0.out), by repeat (first | (with_reducible first | exact HB.out | apply below_alloc | apply pw_below_drewN | apply below_drew1 | refine below_set ?_ (IsS81.ge HI0.out) | refine below_set ?_ GE104.out | refine below_set ?_ GE109.out) | exact HB.out), by repeat (first | (with_reducible first | exact HK.out | apply KeepBut.set_ | apply keep_drewN | apply keep_drew | apply keep_alloc | refine keep_far ?_ GW104.out _ | refine keep_far ?_ GW109.out _) | exact HK.out)⟩

end Go.Proofs.Ytgdhgncdpmalcaa.Q
namespace Go.Proofs.Ytgdhgncdpmalcaa.Q
open Go.RowKit Go.Proofs.YtgdhgncdpmalcaaW.PrintWords Go.Proofs.YtgdhgncdpmalcaaW.PrintLast Go.Proofs.YtgdhgncdpmalcaaW.PrintMore
attribute [local go_sem] max2_int min2_int max_two min_two max_three min_three max_four min_four   -- for this text's walks alone
set_option linter.unusedVariables false
set_option linter.unusedSimpArgs false

/-! ### spec_l92Box: function 59 -/
def spec_l92Box.j0 : Nat → Int → Int → List (S32) → Bool → List Int → Int → Option ((List (S32)) × Int)
  | 0, _, _, _, _, _, _ => none
  | k + 1, x3, x4, x7, x47, x1000, x1001 => if x47 = true then ((some (([(⟨x3, x4⟩ : S32), (⟨wrap64 (x3 + 1), x4⟩ : S32)] : List (S32)) : List (S32))).bind fun y135 => (if 1 ≤ (x7.length : Int) then ((some (x7.drop 1 : List (S32))).bind fun y138 => (if y135.length + y138.length < 8796093022208 then ((some (y135 ++ y138 : List (S32))).bind fun y142 => ((spec_l6Rd_pick.f k x1000 x1001 3).bind fun bt145 => (if bt145.1 = 0 then (if 1 ≤ y142.length ∧ y142.length ≤ 100 then (some (y142.drop 1 ++ [rd_T32 y142 0], bt145.2)) else none) else (some (y142, bt145.2))))) else (none))) else (none))) else ((spec_l6Rd_pick.f k x1000 x1001 3).bind fun bt147 => (if bt147.1 = 0 then (if 1 ≤ x7.length ∧ x7.length ≤ 100 then (some (x7.drop 1 ++ [rd_T32 x7 0], bt147.2)) else none) else (some (x7, bt147.2))))
def spec_l92Box.f (k : Nat) (s0_0 : List Int) (s0_1 : Int) : Option ((List (S32)) × Int) := (spec_l6Rd_pick.f k s0_0 s0_1 5).bind fun bt122 => ((spec_l6Rd_pick.f k s0_0 bt122.2 5).bind fun bt124 => ((spec_l6Rd_pick.f k s0_0 bt124.2 5).bind fun bt126 => ((spec_l6Rd_pick.f k s0_0 bt126.2 5).bind fun bt128 => ((some (([(⟨wrap64 (bt122.1 - 2), wrap64 (bt124.1 - 2)⟩ : S32), (⟨wrap64 ((wrap64 (bt122.1 - 2)) + (wrap64 (1 + bt126.1))), wrap64 (bt124.1 - 2)⟩ : S32), (⟨wrap64 ((wrap64 (bt122.1 - 2)) + (wrap64 (1 + bt126.1))), wrap64 ((wrap64 (bt124.1 - 2)) + (wrap64 (1 + bt128.1)))⟩ : S32), (⟨wrap64 (bt122.1 - 2), wrap64 ((wrap64 (bt124.1 - 2)) + (wrap64 (1 + bt128.1)))⟩ : S32)] : List (S32)) : List (S32))).bind fun y130 => (if (wrap64 (1 + bt126.1)) > 1 then ((spec_l6Rd_pick.f k s0_0 bt128.2 2).bind fun bt133 => (spec_l92Box.j0 k (wrap64 (bt122.1 - 2)) (wrap64 (bt124.1 - 2)) y130 (bt133.1 == 0) s0_0 bt133.2)) else (spec_l92Box.j0 k (wrap64 (bt122.1 - 2)) (wrap64 (bt124.1 - 2)) y130 false s0_0 bt128.2))))))
set_option maxHeartbeats 8000000 in
set_option maxRecDepth 100000 in
theorem spec_l92Box.calls (k : Nat) (g : Nat) (s0_0 : List Int) (s0_1 : Int) (r1 : List (S32)) (r2 : Int) (w0 w : World) (hI : IsS81 w0 w g s0_0 s0_1) (hB : Below w0.heap.size w0 w) (h : spec_l92Box.f k s0_0 s0_1 = some (r1, r2)) :
    Calls Try.prog 59 #[.pointer (some ⟨g, 0, none⟩)] w fun e w' => ∃ v0_ : Value, e = .returned (v0_) ∧ Kd.Q k32 32 w' w.heap.size (fun _ => True) v0_ r1 ∧ IsS81 w0 w' g s0_0 r2 ∧ Below w0.heap.size w0 w' ∧ KeepBut w w' g none := by
  have hu32 := Try.underlying32
  have HI0 := Aside0.mk hI
  have HK := Aside0.mk (KeepBut.refl w g none)
  have HL := Aside0.mk hB.size
  clear hI
  have HW0 := Aside0.mk hB.size
  have HB := Aside0.mk hB
  clear hB
  have H : ((spec_l6Rd_pick.f k s0_0 s0_1 5).bind fun bt122 => ((spec_l6Rd_pick.f k s0_0 bt122.2 5).bind fun bt124 => ((spec_l6Rd_pick.f k s0_0 bt124.2 5).bind fun bt126 => ((spec_l6Rd_pick.f k s0_0 bt126.2 5).bind fun bt128 => ((some (([(⟨wrap64 (bt122.1 - 2), wrap64 (bt124.1 - 2)⟩ : S32), (⟨wrap64 ((wrap64 (bt122.1 - 2)) + (wrap64 (1 + bt126.1))), wrap64 (bt124.1 - 2)⟩ : S32), (⟨wrap64 ((wrap64 (bt122.1 - 2)) + (wrap64 (1 + bt126.1))), wrap64 ((wrap64 (bt124.1 - 2)) + (wrap64 (1 + bt128.1)))⟩ : S32), (⟨wrap64 (bt122.1 - 2), wrap64 ((wrap64 (bt124.1 - 2)) + (wrap64 (1 + bt128.1)))⟩ : S32)] : List (S32)) : List (S32))).bind fun y130 => (if (wrap64 (1 + bt126.1)) > 1 then ((spec_l6Rd_pick.f k s0_0 bt128.2 2).bind fun bt133 => (spec_l92Box.j0 k (wrap64 (bt122.1 - 2)) (wrap64 (bt124.1 - 2)) y130 (bt133.1 == 0) s0_0 bt133.2)) else (spec_l92Box.j0 k (wrap64 (bt122.1 - 2)) (wrap64 (bt124.1 - 2)) y130 false s0_0 bt128.2))))))) = some (r1, r2) := h
  clear h
  replace H := Option.bind_eq_some_iff.mp H
  obtain ⟨⟨t122, t123⟩, A20, H⟩ := H
  replace H : ((spec_l6Rd_pick.f k s0_0 t123 5).bind fun bt124 => ((spec_l6Rd_pick.f k s0_0 bt124.2 5).bind fun bt126 => ((spec_l6Rd_pick.f k s0_0 bt126.2 5).bind fun bt128 => ((some (([(⟨wrap64 (t122 - 2), wrap64 (bt124.1 - 2)⟩ : S32), (⟨wrap64 ((wrap64 (t122 - 2)) + (wrap64 (1 + bt126.1))), wrap64 (bt124.1 - 2)⟩ : S32), (⟨wrap64 ((wrap64 (t122 - 2)) + (wrap64 (1 + bt126.1))), wrap64 ((wrap64 (bt124.1 - 2)) + (wrap64 (1 + bt128.1)))⟩ : S32), (⟨wrap64 (t122 - 2), wrap64 ((wrap64 (bt124.1 - 2)) + (wrap64 (1 + bt128.1)))⟩ : S32)] : List (S32)) : List (S32))).bind fun y130 => (if (wrap64 (1 + bt126.1)) > 1 then ((spec_l6Rd_pick.f k s0_0 bt128.2 2).bind fun bt133 => (spec_l92Box.j0 k (wrap64 (t122 - 2)) (wrap64 (bt124.1 - 2)) y130 (bt133.1 == 0) s0_0 bt133.2)) else (spec_l92Box.j0 k (wrap64 (t122 - 2)) (wrap64 (bt124.1 - 2)) y130 false s0_0 bt128.2)))))) = some (r1, r2) := H
  have A2 := Aside0.mk A20
  clear A20
  replace H := Option.bind_eq_some_iff.mp H
  obtain ⟨⟨t124, t125⟩, A30, H⟩ := H
  replace H : ((spec_l6Rd_pick.f k s0_0 t125 5).bind fun bt126 => ((spec_l6Rd_pick.f k s0_0 bt126.2 5).bind fun bt128 => ((some (([(⟨wrap64 (t122 - 2), wrap64 (t124 - 2)⟩ : S32), (⟨wrap64 ((wrap64 (t122 - 2)) + (wrap64 (1 + bt126.1))), wrap64 (t124 - 2)⟩ : S32), (⟨wrap64 ((wrap64 (t122 - 2)) + (wrap64 (1 + bt126.1))), wrap64 ((wrap64 (t124 - 2)) + (wrap64 (1 + bt128.1)))⟩ : S32), (⟨wrap64 (t122 - 2), wrap64 ((wrap64 (t124 - 2)) + (wrap64 (1 + bt128.1)))⟩ : S32)] : List (S32)) : List (S32))).bind fun y130 => (if (wrap64 (1 + bt126.1)) > 1 then ((spec_l6Rd_pick.f k s0_0 bt128.2 2).bind fun bt133 => (spec_l92Box.j0 k (wrap64 (t122 - 2)) (wrap64 (t124 - 2)) y130 (bt133.1 == 0) s0_0 bt133.2)) else (spec_l92Box.j0 k (wrap64 (t122 - 2)) (wrap64 (t124 - 2)) y130 false s0_0 bt128.2))))) = some (r1, r2) := H
  have A3 := Aside0.mk A30
  clear A30
  replace H := Option.bind_eq_some_iff.mp H
  obtain ⟨⟨t126, t127⟩, A40, H⟩ := H
  replace H : ((spec_l6Rd_pick.f k s0_0 t127 5).bind fun bt128 => ((some (([(⟨wrap64 (t122 - 2), wrap64 (t124 - 2)⟩ : S32), (⟨wrap64 ((wrap64 (t122 - 2)) + (wrap64 (1 + t126))), wrap64 (t124 - 2)⟩ : S32), (⟨wrap64 ((wrap64 (t122 - 2)) + (wrap64 (1 + t126))), wrap64 ((wrap64 (t124 - 2)) + (wrap64 (1 + bt128.1)))⟩ : S32), (⟨wrap64 (t122 - 2), wrap64 ((wrap64 (t124 - 2)) + (wrap64 (1 + bt128.1)))⟩ : S32)] : List (S32)) : List (S32))).bind fun y130 => (if (wrap64 (1 + t126)) > 1 then ((spec_l6Rd_pick.f k s0_0 bt128.2 2).bind fun bt133 => (spec_l92Box.j0 k (wrap64 (t122 - 2)) (wrap64 (t124 - 2)) y130 (bt133.1 == 0) s0_0 bt133.2)) else (spec_l92Box.j0 k (wrap64 (t122 - 2)) (wrap64 (t124 - 2)) y130 false s0_0 bt128.2)))) = some (r1, r2) := H
  have A4 := Aside0.mk A40
  clear A40
  replace H := Option.bind_eq_some_iff.mp H
  obtain ⟨⟨t128, t129⟩, A50, H⟩ := H
  replace H : ((some (([(⟨wrap64 (t122 - 2), wrap64 (t124 - 2)⟩ : S32), (⟨wrap64 ((wrap64 (t122 - 2)) + (wrap64 (1 + t126))), wrap64 (t124 - 2)⟩ : S32), (⟨wrap64 ((wrap64 (t122 - 2)) + (wrap64 (1 + t126))), wrap64 ((wrap64 (t124 - 2)) + (wrap64 (1 + t128)))⟩ : S32), (⟨wrap64 (t122 - 2), wrap64 ((wrap64 (t124 - 2)) + (wrap64 (1 + t128)))⟩ : S32)] : List (S32)) : List (S32))).bind fun y130 => (if (wrap64 (1 + t126)) > 1 then ((spec_l6Rd_pick.f k s0_0 t129 2).bind fun bt133 => (spec_l92Box.j0 k (wrap64 (t122 - 2)) (wrap64 (t124 - 2)) y130 (bt133.1 == 0) s0_0 bt133.2)) else (spec_l92Box.j0 k (wrap64 (t122 - 2)) (wrap64 (t124 - 2)) y130 false s0_0 t129))) = some (r1, r2) := H
  have A5 := Aside0.mk A50
  clear A50
  obtain ⟨y130, hy130⟩ : ∃ y_ : List (S32), y_ = (([(⟨wrap64 (t122 - 2), wrap64 (t124 - 2)⟩ : S32), (⟨wrap64 ((wrap64 (t122 - 2)) + (wrap64 (1 + t126))), wrap64 (t124 - 2)⟩ : S32), (⟨wrap64 ((wrap64 (t122 - 2)) + (wrap64 (1 + t126))), wrap64 ((wrap64 (t124 - 2)) + (wrap64 (1 + t128)))⟩ : S32), (⟨wrap64 (t122 - 2), wrap64 ((wrap64 (t124 - 2)) + (wrap64 (1 + t128)))⟩ : S32)] : List (S32))) := ⟨_, rfl⟩
  replace H : (if (wrap64 (1 + t126)) > 1 then ((spec_l6Rd_pick.f k s0_0 t129 2).bind fun bt133 => (spec_l92Box.j0 k (wrap64 (t122 - 2)) (wrap64 (t124 - 2)) y130 (bt133.1 == 0) s0_0 bt133.2)) else (spec_l92Box.j0 k (wrap64 (t122 - 2)) (wrap64 (t124 - 2)) y130 false s0_0 t129)) = some (r1, r2) := by first | (rw [hy130]; with_reducible exact H) | (have H2_ := (Option.bind_some _ _).symm.trans H; rw [hy130]; with_reducible exact H2_) | (have H2_ := (Option.bind_some _ _).symm.trans H; with_reducible exact H2_) | with_reducible exact H | (rw [hy130]; exact H) | exact H
  have Ny130 := Aside0.mk hy130
  clear hy130
  have HC6 := Aside0.mk H
  clear H
  go_enter Try.func59, Try.ntmps59
  go_upto_region 6 with (first | ((with_reducible refine gate_callee (f := 48) rfl ?_); refine goesL_ (some 9) rfl rfl Try.func48 (by kernel_rfl) rfl #[.pointer (some ⟨g, 0, none⟩), .int .i64 5] rfl (by (try simp only [List.map_toArray, List.map_cons, List.map_nil]); first | done | rfl | (simp only [List.length_drop, List.length_take]; rfl)) ?_; (with_reducible refine (spec_l6Rd_pick.calls k g s0_0 s0_1 5 t122 t123 w0 _ ?side1 ?side2 A2.out).mono ?_); (case side1 => repeat (first | (with_reducible first | exact HI0.out | apply IsS81.alloc | apply IsS81.drewN | apply IsS81.drew | apply IsS81.set_1) | exact HI0.out)); (case side2 => repeat (first | (with_reducible first | exact HB.out | apply below_alloc | apply pw_below_drewN | apply below_drew1 | refine below_set ?_ (IsS81.ge HI0.out)) | exact HB.out)); rintro e w7 ⟨rfl, hi, hb, hk⟩; refine ⟨_, rfl, ?_⟩; have n0_ := Aside0.mk (KeepBut.trans (by repeat (first | (with_reducible first | exact HK.out | apply KeepBut.set_ | apply keep_drewN | apply keep_drew | apply keep_alloc) | exact HK.out)) hk (.inl rfl)); have n1_ := Aside0.mk (hb); have n2_ := Aside0.mk (hi); clear HK; clear HB; clear HI0; have HK := n0_; have HB := n1_; have HI0 := n2_; clear n0_ n1_ n2_; (try clear hb); (try clear hb2); (try clear hk); (try clear hi)) | ((with_reducible refine gate_callee (f := 48) rfl ?_); refine goesL_ (some 12) rfl rfl Try.func48 (by kernel_rfl) rfl #[.pointer (some ⟨g, 0, none⟩), .int .i64 5] rfl (by (try simp only [List.map_toArray, List.map_cons, List.map_nil]); first | done | rfl | (simp only [List.length_drop, List.length_take]; rfl)) ?_; (with_reducible refine (spec_l6Rd_pick.calls k g s0_0 t123 5 t124 t125 w0 _ ?side1 ?side2 A3.out).mono ?_); (case side1 => repeat (first | (with_reducible first | exact HI0.out | apply IsS81.alloc | apply IsS81.drewN | apply IsS81.drew | apply IsS81.set_1) | exact HI0.out)); (case side2 => repeat (first | (with_reducible first | exact HB.out | apply below_alloc | apply pw_below_drewN | apply below_drew1 | refine below_set ?_ (IsS81.ge HI0.out)) | exact HB.out)); rintro e w8 ⟨rfl, hi, hb, hk⟩; refine ⟨_, rfl, ?_⟩; have n0_ := Aside0.mk (KeepBut.trans (by repeat (first | (with_reducible first | exact HK.out | apply KeepBut.set_ | apply keep_drewN | apply keep_drew | apply keep_alloc) | exact HK.out)) hk (.inl rfl)); have n1_ := Aside0.mk (hb); have n2_ := Aside0.mk (hi); clear HK; clear HB; clear HI0; have HK := n0_; have HB := n1_; have HI0 := n2_; clear n0_ n1_ n2_; (try clear hb); (try clear hb2); (try clear hk); (try clear hi)) | ((with_reducible refine gate_callee (f := 48) rfl ?_); refine goesL_ (some 15) rfl rfl Try.func48 (by kernel_rfl) rfl #[.pointer (some ⟨g, 0, none⟩), .int .i64 5] rfl (by (try simp only [List.map_toArray, List.map_cons, List.map_nil]); first | done | rfl | (simp only [List.length_drop, List.length_take]; rfl)) ?_; (with_reducible refine (spec_l6Rd_pick.calls k g s0_0 t125 5 t126 t127 w0 _ ?side1 ?side2 A4.out).mono ?_); (case side1 => repeat (first | (with_reducible first | exact HI0.out | apply IsS81.alloc | apply IsS81.drewN | apply IsS81.drew | apply IsS81.set_1) | exact HI0.out)); (case side2 => repeat (first | (with_reducible first | exact HB.out | apply below_alloc | apply pw_below_drewN | apply below_drew1 | refine below_set ?_ (IsS81.ge HI0.out)) | exact HB.out)); rintro e w9 ⟨rfl, hi, hb, hk⟩; refine ⟨_, rfl, ?_⟩; have n0_ := Aside0.mk (KeepBut.trans (by repeat (first | (with_reducible first | exact HK.out | apply KeepBut.set_ | apply keep_drewN | apply keep_drew | apply keep_alloc) | exact HK.out)) hk (.inl rfl)); have n1_ := Aside0.mk (hb); have n2_ := Aside0.mk (hi); clear HK; clear HB; clear HI0; have HK := n0_; have HB := n1_; have HI0 := n2_; clear n0_ n1_ n2_; (try clear hb); (try clear hb2); (try clear hk); (try clear hi)) | ((with_reducible refine gate_callee (f := 48) rfl ?_); refine goesL_ (some 18) rfl rfl Try.func48 (by kernel_rfl) rfl #[.pointer (some ⟨g, 0, none⟩), .int .i64 5] rfl (by (try simp only [List.map_toArray, List.map_cons, List.map_nil]); first | done | rfl | (simp only [List.length_drop, List.length_take]; rfl)) ?_; (with_reducible refine (spec_l6Rd_pick.calls k g s0_0 t127 5 t128 t129 w0 _ ?side1 ?side2 A5.out).mono ?_); (case side1 => repeat (first | (with_reducible first | exact HI0.out | apply IsS81.alloc | apply IsS81.drewN | apply IsS81.drew | apply IsS81.set_1) | exact HI0.out)); (case side2 => repeat (first | (with_reducible first | exact HB.out | apply below_alloc | apply pw_below_drewN | apply below_drew1 | refine below_set ?_ (IsS81.ge HI0.out)) | exact HB.out)); rintro e w10 ⟨rfl, hi, hb, hk⟩; refine ⟨_, rfl, ?_⟩; have n0_ := Aside0.mk (KeepBut.trans (by repeat (first | (with_reducible first | exact HK.out | apply KeepBut.set_ | apply keep_drewN | apply keep_drew | apply keep_alloc) | exact HK.out)) hk (.inl rfl)); have n1_ := Aside0.mk (hb); have n2_ := Aside0.mk (hi); clear HK; clear HB; clear HI0; have HK := n0_; have HB := n1_; have HI0 := n2_; clear n0_ n1_ n2_; (try clear hb); (try clear hb2); (try clear hk); (try clear hi)) | ((with_reducible refine gate_dst (N := 40) rfl ?_); refine Kd.R_lit k32 _ 32 ?hg (N := 40) ?hd (xs := ([(⟨wrap64 (t122 - 2), wrap64 (t124 - 2)⟩ : S32), (⟨wrap64 ((wrap64 (t122 - 2)) + (wrap64 (1 + t126))), wrap64 (t124 - 2)⟩ : S32), (⟨wrap64 ((wrap64 (t122 - 2)) + (wrap64 (1 + t126))), wrap64 ((wrap64 (t124 - 2)) + (wrap64 (1 + t128)))⟩ : S32), (⟨wrap64 (t122 - 2), wrap64 ((wrap64 (t124 - 2)) + (wrap64 (1 + t128)))⟩ : S32)] : List (S32))) (inner := [.int .i64 (wrap64 (t122 - 2)), .int .i64 (wrap64 (t124 - 2)), .int .i64 (wrap64 ((wrap64 (t122 - 2)) + (wrap64 (1 + t126)))), .int .i64 (wrap64 (t124 - 2)), .int .i64 (wrap64 ((wrap64 (t122 - 2)) + (wrap64 (1 + t126)))), .int .i64 (wrap64 ((wrap64 (t124 - 2)) + (wrap64 (1 + t128)))), .int .i64 (wrap64 (t122 - 2)), .int .i64 (wrap64 ((wrap64 (t124 - 2)) + (wrap64 (1 + t128))))]) (ok := fun _ => True) (okp := fun _ => True) ?hr ?hp (fun _ hk => hk) trivial (Below.refl _ _) (Nat.le_refl _) (by simp) ?_; (case hd => rfl); (case hg => rfl); (case hr => first | (go_simp; done) | (go_simp; rfl)); (case hp => exact (Reps.c2 (show Kd.M k32 _ _ _ (⟨wrap64 (t122 - 2), wrap64 (t124 - 2)⟩ : S32) [.int .i64 (wrap64 (t122 - 2)), .int .i64 (wrap64 (t124 - 2))] from (k32_mkM _ _ _ (⟨wrap64 (t122 - 2), wrap64 (t124 - 2)⟩ : S32) )) (Reps.c2 (show Kd.M k32 _ _ _ (⟨wrap64 ((wrap64 (t122 - 2)) + (wrap64 (1 + t126))), wrap64 (t124 - 2)⟩ : S32) [.int .i64 (wrap64 ((wrap64 (t122 - 2)) + (wrap64 (1 + t126)))), .int .i64 (wrap64 (t124 - 2))] from (k32_mkM _ _ _ (⟨wrap64 ((wrap64 (t122 - 2)) + (wrap64 (1 + t126))), wrap64 (t124 - 2)⟩ : S32) )) (Reps.c2 (show Kd.M k32 _ _ _ (⟨wrap64 ((wrap64 (t122 - 2)) + (wrap64 (1 + t126))), wrap64 ((wrap64 (t124 - 2)) + (wrap64 (1 + t128)))⟩ : S32) [.int .i64 (wrap64 ((wrap64 (t122 - 2)) + (wrap64 (1 + t126)))), .int .i64 (wrap64 ((wrap64 (t124 - 2)) + (wrap64 (1 + t128))))] from (k32_mkM _ _ _ (⟨wrap64 ((wrap64 (t122 - 2)) + (wrap64 (1 + t126))), wrap64 ((wrap64 (t124 - 2)) + (wrap64 (1 + t128)))⟩ : S32) )) (Reps.c2 (show Kd.M k32 _ _ _ (⟨wrap64 (t122 - 2), wrap64 ((wrap64 (t124 - 2)) + (wrap64 (1 + t128)))⟩ : S32) [.int .i64 (wrap64 (t122 - 2)), .int .i64 (wrap64 ((wrap64 (t124 - 2)) + (wrap64 (1 + t128))))] from (k32_mkM _ _ _ (⟨wrap64 (t122 - 2), wrap64 ((wrap64 (t124 - 2)) + (wrap64 (1 + t128)))⟩ : S32) )) (Reps.none _ _)))))); intro v131 w11 ho12 hb hg_ hnew_; clear hg_ hnew_; (first | rw [← Ny130.out] at ho12 | (simp only [Int.reduceToNat] at ho12; rw [← Ny130.out] at ho12)); have n0_ := Aside0.mk (Kd.R_lower ho12 (keep_size (w := w) (g := g) (row := none) (by repeat (first | (with_reducible first | exact HK.out | apply KeepBut.set_ | apply keep_drewN | apply keep_drew | apply keep_alloc) | exact HK.out)))); have n1_ := Aside0.mk (IsS81.below (by repeat (first | (with_reducible first | exact HI0.out | apply IsS81.alloc | apply IsS81.drewN | apply IsS81.drew | apply IsS81.set_1) | exact HI0.out)) hb); have n2_ := Aside0.mk (KeepBut.trans (by repeat (first | (with_reducible first | exact HK.out | apply KeepBut.set_ | apply keep_drewN | apply keep_drew | apply keep_alloc) | exact HK.out)) (KeepBut.of_below hb g none) (.inl rfl)); have n3_ := Aside0.mk (below_step (by repeat (first | (with_reducible first | exact HB.out | apply below_alloc | apply pw_below_drewN | apply below_drew1 | refine below_set ?_ (IsS81.ge HI0.out)) | exact HB.out)) hb); clear HI0; clear HK; clear HB; have HO132 := n0_; have HI0 := n1_; have HK := n2_; have HB := n3_; clear n0_ n1_ n2_ n3_; clear hb ho12))
  (try simp only [Act.put, List.setIfInBounds_toArray, List.set_cons_zero, List.set_cons_succ])
  go_cut [47] (fun v47 wc => ∃ (kq : Nat) (x47_5 : Bool) (x1001_5 : Int), v47 = .bool x47_5 ∧ Aside0 (spec_l92Box.j0 kq (wrap64 (t122 - 2)) (wrap64 (t124 - 2)) y130 x47_5 s0_0 x1001_5 = some (r1, r2)) ∧ Aside0 (kq ≤ k) ∧ Aside0 (Kd.R k32 32 wc w.heap.size (fun _ => True) v131 y130) ∧ Aside0 (IsS81 w0 wc g s0_0 x1001_5) ∧ Aside0 (KeepBut w wc g none) ∧ Aside0 (Below w0.heap.size w0 wc))
  case first =>
    have H := HC6.out
    clear HC6
    by_cases c13 : (wrap64 (1 + t126)) > 1
    · rw [if_pos c13] at H
      have c13b0 : decide (1 < (wrap64 (1 + t126))) = true := decide_eq_true c13
      clear c13
      (first | rw [c13b0] | (simp only [i64_w, i32_w]; rw [c13b0]) | skip)
      replace H := Option.bind_eq_some_iff.mp H
      obtain ⟨⟨t133, t134⟩, A140, H⟩ := H
      replace H : (spec_l92Box.j0 k (wrap64 (t122 - 2)) (wrap64 (t124 - 2)) y130 (t133 == 0) s0_0 t134) = some (r1, r2) := H
      have A14 := Aside0.mk A140
      clear A140
      have H' := Aside0.mk H
      clear H
      go_wp2_with (first | (go_at_call 48; (with_reducible refine (spec_l6Rd_pick.calls k g s0_0 t129 2 t133 t134 w0 _ ?side1 ?side2 A14.out).mono ?_); (case side1 => repeat (first | (with_reducible first | exact HI0.out | apply IsS81.alloc | apply IsS81.drewN | apply IsS81.drew | apply IsS81.set_1) | exact HI0.out)); (case side2 => repeat (first | (with_reducible first | exact HB.out | apply below_alloc | apply pw_below_drewN | apply below_drew1 | refine below_set ?_ (IsS81.ge HI0.out)) | exact HB.out)); rintro e w15 ⟨rfl, hi, hb, hk⟩; have n0_ := Aside0.mk (Kd.R_mono (Kd.R_keep (IsS81.apart (show IsS81 w0 _ g s0_0 t129 from by repeat (first | (with_reducible first | exact HI0.out | apply IsS81.alloc | apply IsS81.drewN | apply IsS81.drew | apply IsS81.set_1) | exact HI0.out)) (by (with_reducible repeat (first | apply Kd.R_alloc | apply Kd.R_drewN | apply Kd.R_drew)); exact HO132.out) (by decide)) hk (fun _ h => h.2)) (fun _ h => h.1)); have n1_ := Aside0.mk (KeepBut.trans (by repeat (first | (with_reducible first | exact HK.out | apply KeepBut.set_ | apply keep_drewN | apply keep_drew | apply keep_alloc) | exact HK.out)) hk (.inl rfl)); have n2_ := Aside0.mk (hb); have n3_ := Aside0.mk (hi); clear HO132; clear HK; clear HB; clear HI0; have HO132 := n0_; have HK := n1_; have HB := n2_; have HI0 := n3_; clear n0_ n1_ n2_ n3_; (try clear hb); (try clear hb2); (try clear hk); (try clear hi)))
      go_meet
      case rel => exact ⟨_, ((t133 == 0)), (t134), (by first | rfl | (simp; done) | (simp [*]; done)), H', ⟨by first | omega | exact Nat.le_refl _⟩, ⟨by (with_reducible repeat (first | apply Kd.R_alloc | apply Kd.R_drewN | apply Kd.R_drew)); exact HO132.out⟩, ⟨by repeat (first | (with_reducible first | exact HI0.out | apply IsS81.alloc | apply IsS81.drewN | apply IsS81.drew | apply IsS81.set_1) | exact HI0.out)⟩, ⟨by repeat (first | (with_reducible first | exact HK.out | apply KeepBut.set_ | apply keep_drewN | apply keep_drew | apply keep_alloc) | exact HK.out)⟩, ⟨by repeat (first | (with_reducible first | exact HB.out | apply below_alloc | apply pw_below_drewN | apply below_drew1 | refine below_set ?_ (IsS81.ge HI0.out)) | exact HB.out)⟩⟩
    · rw [if_neg c13] at H
      have c13b0 : decide (1 < (wrap64 (1 + t126))) = false := decide_eq_false c13
      clear c13
      (first | rw [c13b0] | (simp only [i64_w, i32_w]; rw [c13b0]) | skip)
      have H' := Aside0.mk H
      clear H
      go_wp2
      go_meet
      case rel => exact ⟨_, (false), (t129), (by first | rfl | (simp; done) | (simp [*]; done)), H', ⟨by first | omega | exact Nat.le_refl _⟩, ⟨by (with_reducible repeat (first | apply Kd.R_alloc | apply Kd.R_drewN | apply Kd.R_drew)); exact HO132.out⟩, ⟨by repeat (first | (with_reducible first | exact HI0.out | apply IsS81.alloc | apply IsS81.drewN | apply IsS81.drew | apply IsS81.set_1) | exact HI0.out)⟩, ⟨by repeat (first | (with_reducible first | exact HK.out | apply KeepBut.set_ | apply keep_drewN | apply keep_drew | apply keep_alloc) | exact HK.out)⟩, ⟨by repeat (first | (with_reducible first | exact HB.out | apply below_alloc | apply pw_below_drewN | apply below_drew1 | refine below_set ?_ (IsS81.ge HI0.out)) | exact HB.out)⟩⟩
  case rest =>
    clear HC6
    try clear c1
    try clear c2
    try clear p2
    try clear c4
    try clear c5
    try clear p6
    try clear c13
    try clear c13b0
    obtain ⟨kq, x47_5, x1001_5, rfl, HA, HJ5, HO_7, HI0, HK, HB⟩ := hcut
    cases kq with
    | zero => exact absurd HA.out (by simp [spec_l92Box.j0])
    | succ kj5 =>
      have H := HA.out
      clear HA
      simp only [spec_l92Box.j0] at H
      by_cases c16 : x47_5 = true
      · subst c16
        have H1 : ((some (([(⟨(wrap64 (t122 - 2)), (wrap64 (t124 - 2))⟩ : S32), (⟨wrap64 ((wrap64 (t122 - 2)) + 1), (wrap64 (t124 - 2))⟩ : S32)] : List (S32)) : List (S32))).bind fun y135 => (if 1 ≤ (y130.length : Int) then ((some (y130.drop 1 : List (S32))).bind fun y138 => (if y135.length + y138.length < 8796093022208 then ((some (y135 ++ y138 : List (S32))).bind fun y142 => ((spec_l6Rd_pick.f kj5 s0_0 x1001_5 3).bind fun bt145 => (if bt145.1 = 0 then (if 1 ≤ y142.length ∧ y142.length ≤ 100 then (some (y142.drop 1 ++ [rd_T32 y142 0], bt145.2)) else none) else (some (y142, bt145.2))))) else (none))) else (none))) = some (r1, r2) := by rw [if_pos rfl] at H; exact H
        clear H
        have H := H1
        clear H1
        obtain ⟨y135, hy135⟩ : ∃ y_ : List (S32), y_ = (([(⟨(wrap64 (t122 - 2)), (wrap64 (t124 - 2))⟩ : S32), (⟨wrap64 ((wrap64 (t122 - 2)) + 1), (wrap64 (t124 - 2))⟩ : S32)] : List (S32))) := ⟨_, rfl⟩
        replace H : (if 1 ≤ (y130.length : Int) then ((some (y130.drop 1 : List (S32))).bind fun y138 => (if y135.length + y138.length < 8796093022208 then ((some (y135 ++ y138 : List (S32))).bind fun y142 => ((spec_l6Rd_pick.f kj5 s0_0 x1001_5 3).bind fun bt145 => (if bt145.1 = 0 then (if 1 ≤ y142.length ∧ y142.length ≤ 100 then (some (y142.drop 1 ++ [rd_T32 y142 0], bt145.2)) else none) else (some (y142, bt145.2))))) else (none))) else (none)) = some (r1, r2) := by first | (rw [hy135]; with_reducible exact H) | (have H2_ := (Option.bind_some _ _).symm.trans H; rw [hy135]; with_reducible exact H2_) | (have H2_ := (Option.bind_some _ _).symm.trans H; with_reducible exact H2_) | with_reducible exact H | (rw [hy135]; exact H) | exact H
        have Ny135 := Aside0.mk hy135
        clear hy135
        by_cases c17 : 1 ≤ (y130.length : Int)
        · rw [if_pos c17] at H
          have c17b0 := eq_true c17
          have c17b1 : decide (1 ≤ (y130.length : Int)) = true := decide_eq_true c17
          clear c17
          obtain ⟨y138, hy138⟩ : ∃ y_ : List (S32), y_ = (y130.drop 1) := ⟨_, rfl⟩
          replace H : (if y135.length + y138.length < 8796093022208 then ((some (y135 ++ y138 : List (S32))).bind fun y142 => ((spec_l6Rd_pick.f kj5 s0_0 x1001_5 3).bind fun bt145 => (if bt145.1 = 0 then (if 1 ≤ y142.length ∧ y142.length ≤ 100 then (some (y142.drop 1 ++ [rd_T32 y142 0], bt145.2)) else none) else (some (y142, bt145.2))))) else (none)) = some (r1, r2) := by first | (rw [hy138]; with_reducible exact H) | (have H2_ := (Option.bind_some _ _).symm.trans H; rw [hy138]; with_reducible exact H2_) | (have H2_ := (Option.bind_some _ _).symm.trans H; with_reducible exact H2_) | with_reducible exact H | (rw [hy138]; exact H) | exact H
          have Ny138 := Aside0.mk hy138
          clear hy138
          by_cases c18 : y135.length + y138.length < 8796093022208
          · rw [if_pos c18] at H
            have LMc18 := Aside0.mk c18
            clear c18
            obtain ⟨y142, hy142⟩ : ∃ y_ : List (S32), y_ = (y135 ++ y138) := ⟨_, rfl⟩
            replace H : ((spec_l6Rd_pick.f kj5 s0_0 x1001_5 3).bind fun bt145 => (if bt145.1 = 0 then (if 1 ≤ y142.length ∧ y142.length ≤ 100 then (some (y142.drop 1 ++ [rd_T32 y142 0], bt145.2)) else none) else (some (y142, bt145.2)))) = some (r1, r2) := by first | (rw [hy142]; with_reducible exact H) | (have H2_ := (Option.bind_some _ _).symm.trans H; rw [hy142]; with_reducible exact H2_) | (have H2_ := (Option.bind_some _ _).symm.trans H; with_reducible exact H2_) | with_reducible exact H | (rw [hy142]; exact H) | exact H
            have Ny142 := Aside0.mk hy142
            clear hy142
            replace H := Option.bind_eq_some_iff.mp H
            obtain ⟨⟨t145, t146⟩, A190, H⟩ := H
            replace H : (if t145 = 0 then (if 1 ≤ y142.length ∧ y142.length ≤ 100 then (some (y142.drop 1 ++ [rd_T32 y142 0], t146)) else none) else (some (y142, t146))) = some (r1, r2) := H
            have A19 := Aside0.mk A190
            clear A190
            by_cases c20 : t145 = 0
            · rw [if_pos c20] at H
              have c20b0 : (t145 == 0) = true := beq_iff_eq.mpr c20
              have c20b1 : (t145 != 0) = false := bne_eq_false_iff_eq.mpr c20
              clear c20
              by_cases hl9 : 1 ≤ y142.length ∧ y142.length ≤ 100
              case neg => rw [if_neg hl9] at H; exact absurd H (by simp)
              rw [if_pos hl9] at H
              simp only [Option.some.injEq, Prod.mk.injEq] at H
              obtain ⟨hr1, rfl⟩ := H; have HR1 := Aside0.mk hr1; clear hr1
              go_wp2_with (first | ((with_reducible refine gate_dst (N := 55) rfl ?_); refine Kd.R_lit k32 _ 32 ?hg (N := 55) ?hd (xs := ([(⟨(wrap64 (t122 - 2)), (wrap64 (t124 - 2))⟩ : S32), (⟨wrap64 ((wrap64 (t122 - 2)) + 1), (wrap64 (t124 - 2))⟩ : S32)] : List (S32))) (inner := [.int .i64 (wrap64 (t122 - 2)), .int .i64 (wrap64 (t124 - 2)), .int .i64 (wrap64 ((wrap64 (t122 - 2)) + 1)), .int .i64 (wrap64 (t124 - 2))]) (ok := fun _ => True) (okp := fun _ => True) ?hr ?hp (fun _ hk => hk) trivial (Below.refl _ _) (Nat.le_refl _) (by simp) ?_; (case hd => rfl); (case hg => rfl); (case hr => first | (go_simp; done) | (go_simp; rfl)); (case hp => exact (Reps.c2 (show Kd.M k32 _ _ _ (⟨(wrap64 (t122 - 2)), (wrap64 (t124 - 2))⟩ : S32) [.int .i64 (wrap64 (t122 - 2)), .int .i64 (wrap64 (t124 - 2))] from (k32_mkM _ _ _ (⟨(wrap64 (t122 - 2)), (wrap64 (t124 - 2))⟩ : S32) )) (Reps.c2 (show Kd.M k32 _ _ _ (⟨wrap64 ((wrap64 (t122 - 2)) + 1), (wrap64 (t124 - 2))⟩ : S32) [.int .i64 (wrap64 ((wrap64 (t122 - 2)) + 1)), .int .i64 (wrap64 (t124 - 2))] from (k32_mkM _ _ _ (⟨wrap64 ((wrap64 (t122 - 2)) + 1), (wrap64 (t124 - 2))⟩ : S32) )) (Reps.none _ _)))); intro v136 w21 ho22 hb hg_ hnew_; clear hg_ hnew_; (first | rw [← Ny135.out] at ho22 | (simp only [Int.reduceToNat] at ho22; rw [← Ny135.out] at ho22)); have n0_ := Aside0.mk (Kd.R_elder' (by (with_reducible repeat (first | apply Kd.R_alloc | apply Kd.R_drewN | apply Kd.R_drew)); exact HO_7.out) (Kd.R_base ho22) hb); have n1_ := Aside0.mk (Kd.R_lower (Kd.R_new' ho22 (Kd.R_lt (by (with_reducible repeat (first | apply Kd.R_alloc | apply Kd.R_drewN | apply Kd.R_drew)); exact HO_7.out))) (keep_size (w := w) (g := g) (row := none) (by repeat (first | (with_reducible first | exact HK.out | apply KeepBut.set_ | apply keep_drewN | apply keep_drew | apply keep_alloc) | exact HK.out)))); have n2_ := Aside0.mk (IsS81.below (by repeat (first | (with_reducible first | exact HI0.out | apply IsS81.alloc | apply IsS81.drewN | apply IsS81.drew | apply IsS81.set_1) | exact HI0.out)) hb); have n3_ := Aside0.mk (KeepBut.trans (by repeat (first | (with_reducible first | exact HK.out | apply KeepBut.set_ | apply keep_drewN | apply keep_drew | apply keep_alloc) | exact HK.out)) (KeepBut.of_below hb g none) (.inl rfl)); have n4_ := Aside0.mk (below_step (by repeat (first | (with_reducible first | exact HB.out | apply below_alloc | apply pw_below_drewN | apply below_drew1 | refine below_set ?_ (IsS81.ge HI0.out)) | exact HB.out)) hb); clear HO_7; clear HI0; clear HK; clear HB; have HO_7 := n0_; have HO137 := n1_; have HI0 := n2_; have HK := n3_; have HB := n4_; clear n0_ n1_ n2_ n3_ n4_; clear hb ho22; obtain ⟨Ao24, co24, eo24⟩ := Kd.R_slice HO_7.out; subst eo24; have q23 : (1 : Int) ≤ ((y130.length : Int) : Int) := of_decide_eq_true (by first | (with_reducible assumption) | assumption); obtain ⟨i023, hi023, _, hsz23, _⟩ := info_parts info32; have hroom23 : y130.length ≤ co24 := (Kd.R_reads' HO_7.out).2.1; have hC23 : Kd.C k32 _ Ao24 y130.length y130 := (Kd.R_reads' HO_7.out).2.2; have hcut23 := cut_from (P := Try.prog) 23 32 .i64 Try.underlying23 hi023 2 hsz23 Ao24 y130.length co24 1 (by omega) q23; have hr23 := Kd.C_drop (m := (1 : Int).toNat) (c := co24) hC23 (by omega) hroom23; obtain ⟨A23, hA23⟩ : ∃ Az_, Az_ = (if co24 = (1 : Int).toNat then Ao24 else (Ao24 : Option Addr).map (·.add ((1 : Int).toNat * 2))) := ⟨_, rfl⟩; obtain ⟨c23, hc23⟩ : ∃ cz_, cz_ = co24 - (1 : Int).toNat := ⟨_, rfl⟩; have hy23 : y138.length = y130.length - (1 : Int).toNat := (by rw [Ny138.out, List.length_drop] <;> omega); rw [show (y130).drop (1 : Int).toNat = y138 from Ny138.out.symm] at hr23; replace hr23 : Kd.C k32 _ A23 y138.length y138 := (by rw [hA23]; exact hr23); rw [← hy23, ← hA23, ← hc23] at hcut23; have HR141 := Aside0.mk hr23; have HC141 := Aside0.mk (show y138.length ≤ c23 from by rw [hy23, hc23]; exact Nat.sub_le_sub_right hroom23 _); clear hr23 hC23 hroom23 hi023 hsz23 hc23; have KY23 := Aside0.mk hy23; have KA23 := Aside0.mk hA23; clear hy23 hA23; have KL23 := Aside0.mk (show 1 ≤ y130.length from by omega); replace q23 := eq_true q23) | ((with_reducible refine gate_builtin (b := .append) (xs := #[.tmp 55, .tmp 57]) rfl ?_); at_builtin; refine Kd.R_append_rows k32 w.heap.size rfl (.tmp 55) (.tmp 57) 23 32 (.agg #[(.int .i64 0), (.int .i64 0)]) 16 rfl Try.underlying23 info32 rfl (by decide) (by omega) v136 y135 y138 _ _ _ (fun k_ => some k_ ≠ (.slice Ao24 y130.length co24 : Value).ownBlock) (fun _ => False) rfl rfl ?aO ?aR (fun _ _ h => h) (fun _ h => h.elim) ?aF (Below.refl _ _) ?aS ?aL ?_; (case aR => repeat (first | exact (by repeat (first | (with_reducible exact HR141.out) | (with_reducible refine Kd.C_alloc ?_ _) | (with_reducible refine Kd.C_drewN ?_ _) | (with_reducible refine Kd.C_drew ?_) | exact HR141.out)) | (with_reducible refine Kd.C_alloc ?_ _) | (with_reducible refine Kd.C_drewN ?_ _) | (with_reducible refine Kd.C_drew ?_))); (case aF => exact (fun k_ hk => Kd.fresh' (Kd.R_lt (by (with_reducible repeat (first | apply Kd.R_alloc | apply Kd.R_drewN | apply Kd.R_drew)); exact HO_7.out)) k_ hk)); (case aO => exact (by (with_reducible repeat (first | apply Kd.R_alloc | apply Kd.R_drewN | apply Kd.R_drew)); exact Kd.R_mono HO137.out (fun _ hk => hk.2))); (case aS => exact (keep_size (w := w) (g := g) (row := none) (by repeat (first | (with_reducible first | exact HK.out | apply KeepBut.set_ | apply keep_drewN | apply keep_drew | apply keep_alloc) | exact HK.out)))); (case aL => have := LMc18.out; omega); intro v143 w25 ho hb hg hat; rw [← Ny142.out] at ho; have n0_ := Aside0.mk (Kd.R_after (ok := (fun _ => True)) (by (with_reducible repeat (first | apply Kd.R_alloc | apply Kd.R_drewN | apply Kd.R_drew)); exact HO_7.out) hg hat); have n1_ := Aside0.mk (IsS81.grown (by repeat (first | (with_reducible first | exact HI0.out | apply IsS81.alloc | apply IsS81.drewN | apply IsS81.drew | apply IsS81.set_1) | exact HI0.out)) hg (IsS81.own_ne HI0.out HO137.out (by decide))); have n2_ := Aside0.mk (below_weaken (by repeat (first | (with_reducible first | exact HB.out | apply below_alloc | apply pw_below_drewN | apply below_drew1 | refine below_set ?_ (IsS81.ge HI0.out)) | exact HB.out)) HL.out hb); have n3_ := Aside0.mk (KeepBut.trans (by repeat (first | (with_reducible first | exact HK.out | apply KeepBut.set_ | apply keep_drewN | apply keep_drew | apply keep_alloc) | exact HK.out)) (KeepBut.of_grown hg g) (Kd.R_base2 HO137.out)); have n4_ := Aside0.mk ((show Kd.C k32 w25 A23 y138.length y138 from by rw [Ny138.out, KA23.out]; exact Kd.C_drop (m := 1) (c := co24) ((Kd.R_reads' (Kd.R_after (ok := (fun _ => True)) (by (with_reducible repeat (first | apply Kd.R_alloc | apply Kd.R_drewN | apply Kd.R_drew)); exact HO_7.out) hg hat)).2.2) KL23.out ((Kd.R_reads' (Kd.R_after (ok := (fun _ => True)) (by (with_reducible repeat (first | apply Kd.R_alloc | apply Kd.R_drewN | apply Kd.R_drew)); exact HO_7.out) hg hat)).2.1))); have n5_ := Aside0.mk (ho); clear HO_7; clear HI0; clear HB; clear HK; clear HR141; clear HO137; have HO_7 := n0_; have HI0 := n1_; have HB := n2_; have HK := n3_; have HR141 := n4_; have HO144 := n5_; clear n0_ n1_ n2_ n3_ n4_ n5_; clear ho hb hg hat) | ((with_reducible refine gate_callee (f := 48) rfl ?_); refine goesL_ (some 60) rfl rfl Try.func48 (by kernel_rfl) rfl #[.pointer (some ⟨g, 0, none⟩), .int .i64 3] rfl (by (try simp only [List.map_toArray, List.map_cons, List.map_nil]); first | done | rfl | (simp only [List.length_drop, List.length_take]; rfl)) ?_; (with_reducible refine (spec_l6Rd_pick.calls kj5 g s0_0 x1001_5 3 t145 t146 w0 _ ?side1 ?side2 A19.out).mono ?_); (case side1 => repeat (first | (with_reducible first | exact HI0.out | apply IsS81.alloc | apply IsS81.drewN | apply IsS81.drew | apply IsS81.set_1) | exact HI0.out)); (case side2 => repeat (first | (with_reducible first | exact HB.out | apply below_alloc | apply pw_below_drewN | apply below_drew1 | refine below_set ?_ (IsS81.ge HI0.out)) | exact HB.out)); rintro e w26 ⟨rfl, hi, hb, hk⟩; refine ⟨_, rfl, ?_⟩; have n0_ := Aside0.mk (Kd.R_mono (Kd.R_keep (IsS81.apart (show IsS81 w0 _ g s0_0 x1001_5 from by repeat (first | (with_reducible first | exact HI0.out | apply IsS81.alloc | apply IsS81.drewN | apply IsS81.drew | apply IsS81.set_1) | exact HI0.out)) (by (with_reducible repeat (first | apply Kd.R_alloc | apply Kd.R_drewN | apply Kd.R_drew)); exact HO_7.out) (by decide)) hk (fun _ h => h.2)) (fun _ h => h.1)); have n1_ := Aside0.mk (Kd.R_mono (Kd.R_keep (IsS81.apart (show IsS81 w0 _ g s0_0 x1001_5 from by repeat (first | (with_reducible first | exact HI0.out | apply IsS81.alloc | apply IsS81.drewN | apply IsS81.drew | apply IsS81.set_1) | exact HI0.out)) (by (with_reducible repeat (first | apply Kd.R_alloc | apply Kd.R_drewN | apply Kd.R_drew)); exact HO144.out) (by decide)) hk (fun _ h => h.2)) (fun _ h => h.1)); have n2_ := Aside0.mk (KeepBut.trans (by repeat (first | (with_reducible first | exact HK.out | apply KeepBut.set_ | apply keep_drewN | apply keep_drew | apply keep_alloc) | exact HK.out)) hk (.inl rfl)); have n3_ := Aside0.mk (hb); have n4_ := Aside0.mk (hi); clear HO_7; clear HO144; clear HK; clear HB; clear HI0; have HO_7 := n0_; have HO144 := n1_; have HK := n2_; have HB := n3_; have HI0 := n4_; clear n0_ n1_ n2_ n3_ n4_; (try clear hb); (try clear hb2); (try clear hk); (try clear hi)))
              obtain ⟨WW, hWW, hR9⟩ : ∃ WW : World, WW = _ ∧ Kd.R k32 32 WW w.heap.size (fun _ => True) _ y142 := ⟨_, rfl, Kd.R_mono (ok' := fun _ => True) HO144.out (fun _ _ => trivial)⟩
              subst hWW
              obtain ⟨gq, cq, eq_, _, _, _⟩ := Kd.R_form hR9 (by omega)
              (first | subst eq_ | (injection eq_ with ea_ en_ ec_; (first | subst ea_ | (injection ea_ with ea_; subst ea_)); subst ec_; clear en_))
              have hQ9 := Kd.Q_of_R hR9
              have hc9 := (Kd.R_reads' hR9).2.1
              have hd9 := Kd.Q_drop (k := 1) hQ9 (by omega)
              obtain ⟨vc, hvc⟩ : ∃ vc, Value.slice (if cq = 1 then (some ⟨gq, 0, none⟩ : Option Addr) else (some ⟨gq, 0, none⟩ : Option Addr).map (·.add (1 * 2))) (y142.length - 1) (cq - 1) = vc := ⟨_, rfl⟩
              replace hd9 : Kd.Q k32 32 WW w.heap.size (fun _ => True) vc (y142.drop 1) := by rw [← hvc]; exact hd9
              obtain ⟨i9, hi9, _, hsz9, _⟩ := info_parts info32
              have hcut9 : ∀ W : World, (Instr.slice 23 (.slice (some ⟨gq, 0, none⟩) y142.length cq) (some (.int .i64 1)) none none).run Try.prog W = .ok vc W := fun W => by rw [← hvc]; exact cut_from (P := Try.prog) 23 32 .i64 Try.underlying23 hi9 2 hsz9 (some ⟨gq, 0, none⟩) y142.length cq 1 (by decide) (by omega) W
              obtain ⟨ad9, ead9, hx9, hy9⟩ := at_T32 (Kd.R_reads' hR9).2.2 0 (by decide) (by omega)
              cases ead9
              have hx9' : WW.cell? ⟨gq, 0, none⟩ = some (.int .i64 (rd_T32 y142 0).f0) := by simpa [Addr.add] using hx9
              have hy9' : WW.cell? ⟨gq, 1, none⟩ = some (.int .i64 (rd_T32 y142 0).f1) := by simpa [Addr.add] using hy9
              have hbs9 := HK.out.1
              have HQ9 := Aside0.mk hd9
              obtain ⟨p9, hp9⟩ : ∃ p, rd_T32 y142 0 = p := ⟨_, rfl⟩
              rw [hp9] at hx9' hy9'
              obtain ⟨y9, hy9_⟩ : ∃ y_, y142.drop 1 = y_ := ⟨_, rfl⟩
              have hyl9 : y9.length ≤ 100 := by rw [← hy9_, List.length_drop]; omega
              rw [hy9_] at HQ9
              clear hR9 hQ9 hd9 hvc hx9 hy9
              refine wpIn_wide (n := 0) |>.1 ?_
              have HF := Drawn.wide_plain Try.prog
              refine Drawn.act_name fun A0 hA0 => ?_
              obtain ⟨VS, hVS⟩ : ∃ VS : Value → Value → List (Option Tmp × Value), (fun u u' => [(some 62, .slice (some ⟨gq, 0, none⟩) y142.length cq), (some 63, vc), (some 64, .slice (some ⟨gq, 0, none⟩) y142.length cq), (some 65, .pointer (some ⟨gq, 0, none⟩)), (some 66, .agg #[.int .i64 p9.f0, .int .i64 p9.f1]), (some 67, .slice (some ⟨WW.heap.size, 0, none⟩) 1 1), (some 68, u), (some 2, u')]) = VS := ⟨_, rfl⟩
              have HN : ∀ u u', ((VS u u').filterMap (·.1)).Nodup := fun u u' => by rw [← hVS]; exact (show List.Nodup [(62 : Tmp), (63 : Tmp), (64 : Tmp), (65 : Tmp), (66 : Tmp), (67 : Tmp), (68 : Tmp), (2 : Tmp)] by decide)
              have E7 : ∀ (u u' : Value) (L : List Bool), (Drawn.fill (VS u u') L A0).tmps[7]?.getD undef = .slice (some ⟨gq, 0, none⟩) y142.length cq := fun u u' L => Drawn.fill_old _ _ _ (by rw [← hVS]; exact (show (7 : Tmp) ∉ [(62 : Tmp), (63 : Tmp), (64 : Tmp), (65 : Tmp), (66 : Tmp), (67 : Tmp), (68 : Tmp), (2 : Tmp)] by decide)) (by rw [← hA0]; rfl)
              have E62 : ∀ (u u' : Value) (L : List Bool), L[0]? = some true → (Drawn.fill (VS u u') L A0).tmps[62]?.getD undef = .slice (some ⟨gq, 0, none⟩) y142.length cq := fun u u' L h => Drawn.fill_at (HN u u') (j := 0) (by rw [← hVS]; rfl) h (by rw [← hA0]; simp)
              have E63 : ∀ (u u' : Value) (L : List Bool), L[1]? = some true → (Drawn.fill (VS u u') L A0).tmps[63]?.getD undef = vc := fun u u' L h => Drawn.fill_at (HN u u') (j := 1) (by rw [← hVS]; rfl) h (by rw [← hA0]; simp)
              have E64 : ∀ (u u' : Value) (L : List Bool), L[2]? = some true → (Drawn.fill (VS u u') L A0).tmps[64]?.getD undef = .slice (some ⟨gq, 0, none⟩) y142.length cq := fun u u' L h => Drawn.fill_at (HN u u') (j := 2) (by rw [← hVS]; rfl) h (by rw [← hA0]; simp)
              have E65 : ∀ (u u' : Value) (L : List Bool), L[3]? = some true → (Drawn.fill (VS u u') L A0).tmps[65]?.getD undef = .pointer (some ⟨gq, 0, none⟩) := fun u u' L h => Drawn.fill_at (HN u u') (j := 3) (by rw [← hVS]; rfl) h (by rw [← hA0]; simp)
              have E66 : ∀ (u u' : Value) (L : List Bool), L[4]? = some true → (Drawn.fill (VS u u') L A0).tmps[66]?.getD undef = .agg #[.int .i64 p9.f0, .int .i64 p9.f1] := fun u u' L h => Drawn.fill_at (HN u u') (j := 4) (by rw [← hVS]; rfl) h (by rw [← hA0]; simp)
              have E67 : ∀ (u u' : Value) (L : List Bool), L[5]? = some true → (Drawn.fill (VS u u') L A0).tmps[67]?.getD undef = .slice (some ⟨WW.heap.size, 0, none⟩) 1 1 := fun u u' L h => Drawn.fill_at (HN u u') (j := 5) (by rw [← hVS]; rfl) h (by rw [← hA0]; simp)
              have E68 : ∀ (u u' : Value) (L : List Bool), L[6]? = some true → (Drawn.fill (VS u u') L A0).tmps[68]?.getD undef = u := fun u u' L h => Drawn.fill_at (HN u u') (j := 6) (by rw [← hVS]; rfl) h (by rw [← hA0]; simp)
              obtain ⟨V, hV⟩ : ∃ V : List Bool → List (Option Tmp × Value) → World → Prop, (fun L vs w' => ∃ u u', vs = VS u u' ∧ (L[7]? = some true → u' = u) ∧ (L[6]? = some true → Kd.Q k32 32 w' w.heap.size (fun _ => True) u (y9 ++ [p9]) ∧ Below w.heap.size WW w' ∧ WW.grownBy w' vc.ownBlock) ∧ (L[6]? = some false → L[5]? = some true → w' = WW.drew.alloc (.cells #[.int .i64 p9.f0, .int .i64 p9.f1] 32)) ∧ (L[5]? = some false → w' = WW.drew)) = V := ⟨_, rfl⟩
              have keep : ∀ (L : List Bool) (u u' : Value) (w' : World) (i : Nat), i < 5 → V L (VS u u') w' → V (L.set i true) (VS u u') w' := by
                intro L u u' w' i hi h
                rw [← hV] at h ⊢
                obtain ⟨u1, u2, h1, h2⟩ := h
                refine ⟨u1, u2, h1, ?_⟩
                rw [List.getElem?_set_ne (by omega), List.getElem?_set_ne (by omega), List.getElem?_set_ne (by omega)]
                exact h2
              refine Drawn.drawn_any (by kernel_rfl) (Drawn.early_spec (by kernel_rfl)) (show List.Nodup [(62 : Tmp), (63 : Tmp), (64 : Tmp), (65 : Tmp), (66 : Tmp), (67 : Tmp), (68 : Tmp), (2 : Tmp)] by decide) V (fun L vs w' h => by rw [← hV] at h; obtain ⟨u, u', rfl, _⟩ := h; rw [← hVS]; rfl) (VS undef undef) (by rw [← hV]; exact ⟨_, _, rfl, fun h => absurd h (by decide), fun h => absurd h (by decide), fun _ h => absurd h (by decide), fun _ => rfl⟩) ?_ ?_
              · intro i o vs L w' ho hl hli hpre hcl hVL K hK
                have hVL' := hVL
                rw [← hV] at hVL'
                obtain ⟨u, u', rfl, hu7, hu6, hu56, hu5⟩ := hVL'
                have hii : i = 0 ∨ i = 1 ∨ i = 2 ∨ i = 3 ∨ i = 4 ∨ i = 5 ∨ i = 6 ∨ i = 7 := by have hq := (Array.getElem?_eq_some_iff.1 ho).1; simp at hq; omega
                have dn : ∀ j, j < 8 → L[j]? ≠ some true → L[j]? = some false := fun j hj h => by rw [List.getElem?_eq_getElem (by rw [hl]; exact hj)] at h ⊢; cases hc : L[j]'(by rw [hl]; exact hj) <;> simp_all
                rcases hii with rfl | rfl | rfl | rfl | rfl | rfl | rfl | rfl
                · obtain rfl := Option.some.inj ho
                  have e7 := E7 u u' L
                  refine Drawn.st_val HF rfl (by simp) rfl (v := .slice (some ⟨gq, 0, none⟩) y142.length cq) (w' := w') ?_ (hK _ w' (by have := keep L u u' w' 0 (by decide) hVL; rw [← hVS] at this ⊢; exact this))
                  generalize Drawn.fill (VS u u') L A0 = A at e7 ⊢
                  simp [execOp, go_sem, e7]
                · obtain rfl := Option.some.inj ho
                  have e62 := E62 u u' L (hpre ⟨0, .data⟩ (by simp) rfl)
                  refine Drawn.st_val HF rfl (by simp) rfl (v := vc) (w' := w') ?_ (hK _ w' (by have := keep L u u' w' 1 (by decide) hVL; rw [← hVS] at this ⊢; exact this))
                  generalize Drawn.fill (VS u u') L A0 = A at e62 ⊢
                  have s62 := (Drawn.eval_tmp A 62).trans e62
                  change (execOp A.eval { dst := some 63, op := Op.slice 23 (Operand.tmp 62) (some (Operand.const (Value.int IntKind.i64 1))) none none, type := 23, pos := "l92_draw.go:128", after := #[{ on := 0, ground := Ground.data }], guard := none }).run Try.prog w' = _
                  unfold execOp
                  simp only [Option.map_some, Option.map_none, s62, show A.eval (.const (.int .i64 1)) = .int .i64 1 from rfl, Sem.run_bind, Sem.run_pure]
                  rw [show (Instr.sliceAt 23 (.slice (some ⟨gq, 0, none⟩) y142.length cq) (some (.int .i64 1)) none none).run Try.prog w' = .ok vc w' from hcut9 w']
                  rfl
                · obtain rfl := Option.some.inj ho
                  have e7 := E7 u u' L
                  refine Drawn.st_val HF rfl (by simp) rfl (v := .slice (some ⟨gq, 0, none⟩) y142.length cq) (w' := w') ?_ (hK _ w' (by have := keep L u u' w' 2 (by decide) hVL; rw [← hVS] at this ⊢; exact this))
                  generalize Drawn.fill (VS u u') L A0 = A at e7 ⊢
                  simp [execOp, go_sem, e7]
                · obtain rfl := Option.some.inj ho
                  have e64 := E64 u u' L (hpre ⟨2, .data⟩ (by simp) rfl)
                  refine Drawn.st_val HF rfl (by simp) rfl (v := .pointer (some ⟨gq, 0, none⟩)) (w' := w') ?_ (hK _ w' (by have := keep L u u' w' 3 (by decide) hVL; rw [← hVS] at this ⊢; exact this))
                  have hpos : 0 < y142.length := by omega
                  generalize Drawn.fill (VS u u') L A0 = A at e64 ⊢
                  simp [execOp, go_sem, e64, hpos, Addr.add]
                · obtain rfl := Option.some.inj ho
                  have e65 := E65 u u' L (hpre ⟨3, .data⟩ (by simp) rfl)
                  have n5 := dn 5 (by decide) (fun h5 => by have h4 := hcl 5 _ rfl h5 ⟨4, .data⟩ (by simp) rfl; rw [hli] at h4; cases h4)
                  obtain rfl := hu5 n5
                  have c1 : WW.drew.cell? ⟨gq, 0, none⟩ = _ := hx9'
                  have c2 : WW.drew.cell? ⟨gq, 1, none⟩ = _ := hy9'
                  refine Drawn.st_val HF rfl (by simp) rfl (v := .agg #[.int .i64 p9.f0, .int .i64 p9.f1]) (w' := WW.drew) ?_ (hK _ WW.drew (by have := keep L u u' WW.drew 4 (by decide) hVL; rw [← hVS] at this ⊢; exact this))
                  generalize Drawn.fill (VS u u') L A0 = A at e65 ⊢
                  simp [execOp, go_sem, e65, c1, c2]
                · obtain rfl := Option.some.inj ho
                  have e66 := E66 u u' L (hpre ⟨4, .data⟩ (by simp) rfl)
                  have n6 := dn 6 (by decide) (fun h6 => by have h5 := hcl 6 _ rfl h6 ⟨5, .data⟩ (by simp) rfl; rw [hli] at h5; cases h5)
                  obtain rfl := hu5 hli
                  refine Drawn.st_val HF rfl (by simp) rfl (v := .slice (some ⟨WW.heap.size, 0, none⟩) 1 1) (w' := WW.drew.alloc (.cells #[.int .i64 p9.f0, .int .i64 p9.f1] 32)) ?_ (hK _ _ ?_)
                  · generalize Drawn.fill (VS u u') L A0 = A at e66 ⊢
                    simp [execOp, go_sem, e66]
                  · rw [← hV]
                    refine ⟨u, u', by rw [← hVS]; rfl, fun h => hu7 (by rwa [List.getElem?_set_ne (by decide)] at h), fun h => ?_, fun _ _ => rfl, fun h => ?_⟩
                    · rw [List.getElem?_set_ne (by decide), n6] at h; cases h
                    · rw [List.getElem?_set_self (by rw [hl]; decide)] at h; cases h
                · obtain rfl := Option.some.inj ho
                  have e63 := E63 u u' L (hpre ⟨1, .data⟩ (by simp) rfl)
                  have h5t := hpre ⟨5, .data⟩ (by simp) rfl
                  have e67 := E67 u u' L h5t
                  obtain rfl := hu56 hli h5t
                  obtain ⟨v1, w1, hr9, q1, q2, q3, _⟩ := Kd.Q_run (P := Try.prog) (W := WW.drew) k32 (w0 := WW) w.heap.size 23 23 32 (.agg #[(.int .i64 0), (.int .i64 0)]) 16 Try.underlying23 info32 rfl (by decide) (by omega) vc y9 p9 _ (fun _ => True) (fun _ => False) (k32_mkM _ _ _ p9) (fun _ h => h.elim) (fun _ _ => trivial) HQ9.out (below_drew1 (Below.refl _ _)) hbs9 (by omega)
                  refine Drawn.st_val HF rfl (by simp) rfl (v := v1) (w' := w1) ?_ (hK _ _ ?_)
                  · generalize Drawn.fill (VS u u') L A0 = A at e63 e67 ⊢
                    have s63 := (Drawn.eval_tmp A 63).trans e63
                    have s67 := (Drawn.eval_tmp A 67).trans e67
                    change (execOp A.eval { dst := some 68, op := Op.call { callee := Callee.builtin Builtin.append, args := #[Operand.tmp 63, Operand.tmp 67], argTypes := #[23, 23] }, type := 23, pos := "l92_draw.go:128", after := #[{ on := 1, ground := Ground.data }, { on := 5, ground := Ground.data }], guard := none }).run Try.prog _ = _
                    unfold execOp
                    simp only [resolve, invoke, builtin, Sem.run_bind, Sem.run_pure, Result.andThen_ok, List.map_toArray, List.map_cons, List.map_nil, s63, s67]
                    rw [show WW.drew.heap.size = WW.heap.size from rfl] at hr9
                    rw [show (#[.int .i64 p9.f0, .int .i64 p9.f1] : Array Value) = [.int .i64 p9.f0, .int .i64 p9.f1].toArray from rfl, hr9]
                    rfl
                  · rw [← hV]
                    have n7 := dn 7 (by decide) (fun h7 => by have h6 := hcl 7 _ rfl h7 ⟨6, .data⟩ (by simp) rfl; rw [hli] at h6; cases h6)
                    refine ⟨v1, u', by rw [← hVS]; rfl, fun h => ?_, fun _ => ⟨q1, q2, World.grownBy.trans (grown_of_below (below_drew1 (Below.refl WW.heap.size WW)) _) q3⟩, fun h => ?_, fun h => ?_⟩
                    · rw [List.getElem?_set_ne (by decide), n7] at h; cases h
                    · rw [List.getElem?_set_self (by rw [hl]; decide)] at h; cases h
                    · rw [List.getElem?_set_ne (by decide), h5t] at h; cases h
                · obtain rfl := Option.some.inj ho
                  have h6t := hpre ⟨6, .data⟩ (by simp) rfl
                  have e68 := E68 u u' L h6t
                  refine Drawn.st_val HF rfl (by simp) rfl (v := u) (w' := w') ?_ (hK _ w' ?_)
                  · generalize Drawn.fill (VS u u') L A0 = A at e68 ⊢
                    simp [execOp, go_sem, e68]
                  · rw [← hV]
                    refine ⟨u, u, by rw [← hVS]; rfl, fun _ => rfl, fun _ => hu6 h6t, fun h => ?_, fun h => hu5 (by rwa [List.getElem?_set_ne (by decide)] at h)⟩
                    rw [List.getElem?_set_ne (by decide), h6t] at h; cases h
              · intro vs w' hVL
                rw [← hV] at hVL
                obtain ⟨u, u', rfl, hu7, hu6, _, _⟩ := hVL
                obtain rfl := hu7 rfl
                obtain ⟨q1, q2, q3⟩ := hu6 rfl
                rw [← hVS, ← hA0]
                simp only [List.size_toArray, List.length_cons, List.length_nil, Nat.reduceAdd, List.replicate, Drawn.fill, if_true, Act.put, List.setIfInBounds_toArray, List.set_cons_succ, List.set_cons_zero]
                have HIf := Aside0.mk (IsS81.grown HI0.out q3 (IsS81.own_neQ HI0.out HQ9.out (by decide)))
                have HBf := Aside0.mk (below_weaken HB.out HL.out q2)
                have HKf := Aside0.mk (KeepBut.trans HK.out (KeepBut.of_grown q3 g) (Kd.Q_base2 HQ9.out))
                have HQf := Aside0.mk q1
                clear q1 q2 q3 hu6 HN keep E7 E62 E63 E64 E65 E66 E67 E68 hVS hV hA0
                go_wp2
                go_ret
                exact ⟨_, rfl, by rw [← HR1.out, hy9_, hp9]; exact HQf.out, HIf.out, HBf.out, HKf.out⟩
            · rw [if_neg c20] at H
              have c20b0 : (t145 == 0) = false := beq_eq_false_iff_ne.mpr c20
              have c20b1 : (t145 != 0) = true := bne_iff_ne.mpr c20
              simp only [Option.some.injEq, Prod.mk.injEq] at H
              obtain ⟨rfl, rfl⟩ := H
              go_wp2_with (first | ((with_reducible refine gate_dst (N := 55) rfl ?_); refine Kd.R_lit k32 _ 32 ?hg (N := 55) ?hd (xs := ([(⟨(wrap64 (t122 - 2)), (wrap64 (t124 - 2))⟩ : S32), (⟨wrap64 ((wrap64 (t122 - 2)) + 1), (wrap64 (t124 - 2))⟩ : S32)] : List (S32))) (inner := [.int .i64 (wrap64 (t122 - 2)), .int .i64 (wrap64 (t124 - 2)), .int .i64 (wrap64 ((wrap64 (t122 - 2)) + 1)), .int .i64 (wrap64 (t124 - 2))]) (ok := fun _ => True) (okp := fun _ => True) ?hr ?hp (fun _ hk => hk) trivial (Below.refl _ _) (Nat.le_refl _) (by simp) ?_; (case hd => rfl); (case hg => rfl); (case hr => first | (go_simp; done) | (go_simp; rfl)); (case hp => exact (Reps.c2 (show Kd.M k32 _ _ _ (⟨(wrap64 (t122 - 2)), (wrap64 (t124 - 2))⟩ : S32) [.int .i64 (wrap64 (t122 - 2)), .int .i64 (wrap64 (t124 - 2))] from (k32_mkM _ _ _ (⟨(wrap64 (t122 - 2)), (wrap64 (t124 - 2))⟩ : S32) )) (Reps.c2 (show Kd.M k32 _ _ _ (⟨wrap64 ((wrap64 (t122 - 2)) + 1), (wrap64 (t124 - 2))⟩ : S32) [.int .i64 (wrap64 ((wrap64 (t122 - 2)) + 1)), .int .i64 (wrap64 (t124 - 2))] from (k32_mkM _ _ _ (⟨wrap64 ((wrap64 (t122 - 2)) + 1), (wrap64 (t124 - 2))⟩ : S32) )) (Reps.none _ _)))); intro v136 w27 ho28 hb hg_ hnew_; clear hg_ hnew_; (first | rw [← Ny135.out] at ho28 | (simp only [Int.reduceToNat] at ho28; rw [← Ny135.out] at ho28)); have n0_ := Aside0.mk (Kd.R_elder' (by (with_reducible repeat (first | apply Kd.R_alloc | apply Kd.R_drewN | apply Kd.R_drew)); exact HO_7.out) (Kd.R_base ho28) hb); have n1_ := Aside0.mk (Kd.R_lower (Kd.R_new' ho28 (Kd.R_lt (by (with_reducible repeat (first | apply Kd.R_alloc | apply Kd.R_drewN | apply Kd.R_drew)); exact HO_7.out))) (keep_size (w := w) (g := g) (row := none) (by repeat (first | (with_reducible first | exact HK.out | apply KeepBut.set_ | apply keep_drewN | apply keep_drew | apply keep_alloc) | exact HK.out)))); have n2_ := Aside0.mk (IsS81.below (by repeat (first | (with_reducible first | exact HI0.out | apply IsS81.alloc | apply IsS81.drewN | apply IsS81.drew | apply IsS81.set_1) | exact HI0.out)) hb); have n3_ := Aside0.mk (KeepBut.trans (by repeat (first | (with_reducible first | exact HK.out | apply KeepBut.set_ | apply keep_drewN | apply keep_drew | apply keep_alloc) | exact HK.out)) (KeepBut.of_below hb g none) (.inl rfl)); have n4_ := Aside0.mk (below_step (by repeat (first | (with_reducible first | exact HB.out | apply below_alloc | apply pw_below_drewN | apply below_drew1 | refine below_set ?_ (IsS81.ge HI0.out)) | exact HB.out)) hb); clear HO_7; clear HI0; clear HK; clear HB; have HO_7 := n0_; have HO137 := n1_; have HI0 := n2_; have HK := n3_; have HB := n4_; clear n0_ n1_ n2_ n3_ n4_; clear hb ho28; obtain ⟨Ao30, co30, eo30⟩ := Kd.R_slice HO_7.out; subst eo30; have q29 : (1 : Int) ≤ ((y130.length : Int) : Int) := of_decide_eq_true (by first | (with_reducible assumption) | assumption); obtain ⟨i029, hi029, _, hsz29, _⟩ := info_parts info32; have hroom29 : y130.length ≤ co30 := (Kd.R_reads' HO_7.out).2.1; have hC29 : Kd.C k32 _ Ao30 y130.length y130 := (Kd.R_reads' HO_7.out).2.2; have hcut29 := cut_from (P := Try.prog) 23 32 .i64 Try.underlying23 hi029 2 hsz29 Ao30 y130.length co30 1 (by omega) q29; have hr29 := Kd.C_drop (m := (1 : Int).toNat) (c := co30) hC29 (by omega) hroom29; obtain ⟨A29, hA29⟩ : ∃ Az_, Az_ = (if co30 = (1 : Int).toNat then Ao30 else (Ao30 : Option Addr).map (·.add ((1 : Int).toNat * 2))) := ⟨_, rfl⟩; obtain ⟨c29, hc29⟩ : ∃ cz_, cz_ = co30 - (1 : Int).toNat := ⟨_, rfl⟩; have hy29 : y138.length = y130.length - (1 : Int).toNat := (by rw [Ny138.out, List.length_drop] <;> omega); rw [show (y130).drop (1 : Int).toNat = y138 from Ny138.out.symm] at hr29; replace hr29 : Kd.C k32 _ A29 y138.length y138 := (by rw [hA29]; exact hr29); rw [← hy29, ← hA29, ← hc29] at hcut29; have HR141 := Aside0.mk hr29; have HC141 := Aside0.mk (show y138.length ≤ c29 from by rw [hy29, hc29]; exact Nat.sub_le_sub_right hroom29 _); clear hr29 hC29 hroom29 hi029 hsz29 hc29; have KY29 := Aside0.mk hy29; have KA29 := Aside0.mk hA29; clear hy29 hA29; have KL29 := Aside0.mk (show 1 ≤ y130.length from by omega); replace q29 := eq_true q29) | ((with_reducible refine gate_builtin (b := .append) (xs := #[.tmp 55, .tmp 57]) rfl ?_); at_builtin; refine Kd.R_append_rows k32 w.heap.size rfl (.tmp 55) (.tmp 57) 23 32 (.agg #[(.int .i64 0), (.int .i64 0)]) 16 rfl Try.underlying23 info32 rfl (by decide) (by omega) v136 y135 y138 _ _ _ (fun k_ => some k_ ≠ (.slice Ao30 y130.length co30 : Value).ownBlock) (fun _ => False) rfl rfl ?aO ?aR (fun _ _ h => h) (fun _ h => h.elim) ?aF (Below.refl _ _) ?aS ?aL ?_; (case aR => repeat (first | exact (by repeat (first | (with_reducible exact HR141.out) | (with_reducible refine Kd.C_alloc ?_ _) | (with_reducible refine Kd.C_drewN ?_ _) | (with_reducible refine Kd.C_drew ?_) | exact HR141.out)) | (with_reducible refine Kd.C_alloc ?_ _) | (with_reducible refine Kd.C_drewN ?_ _) | (with_reducible refine Kd.C_drew ?_))); (case aF => exact (fun k_ hk => Kd.fresh' (Kd.R_lt (by (with_reducible repeat (first | apply Kd.R_alloc | apply Kd.R_drewN | apply Kd.R_drew)); exact HO_7.out)) k_ hk)); (case aO => exact (by (with_reducible repeat (first | apply Kd.R_alloc | apply Kd.R_drewN | apply Kd.R_drew)); exact Kd.R_mono HO137.out (fun _ hk => hk.2))); (case aS => exact (keep_size (w := w) (g := g) (row := none) (by repeat (first | (with_reducible first | exact HK.out | apply KeepBut.set_ | apply keep_drewN | apply keep_drew | apply keep_alloc) | exact HK.out)))); (case aL => have := LMc18.out; omega); intro v143 w31 ho hb hg hat; rw [← Ny142.out] at ho; have n0_ := Aside0.mk (Kd.R_after (ok := (fun _ => True)) (by (with_reducible repeat (first | apply Kd.R_alloc | apply Kd.R_drewN | apply Kd.R_drew)); exact HO_7.out) hg hat); have n1_ := Aside0.mk (IsS81.grown (by repeat (first | (with_reducible first | exact HI0.out | apply IsS81.alloc | apply IsS81.drewN | apply IsS81.drew | apply IsS81.set_1) | exact HI0.out)) hg (IsS81.own_ne HI0.out HO137.out (by decide))); have n2_ := Aside0.mk (below_weaken (by repeat (first | (with_reducible first | exact HB.out | apply below_alloc | apply pw_below_drewN | apply below_drew1 | refine below_set ?_ (IsS81.ge HI0.out)) | exact HB.out)) HL.out hb); have n3_ := Aside0.mk (KeepBut.trans (by repeat (first | (with_reducible first | exact HK.out | apply KeepBut.set_ | apply keep_drewN | apply keep_drew | apply keep_alloc) | exact HK.out)) (KeepBut.of_grown hg g) (Kd.R_base2 HO137.out)); have n4_ := Aside0.mk ((show Kd.C k32 w31 A29 y138.length y138 from by rw [Ny138.out, KA29.out]; exact Kd.C_drop (m := 1) (c := co30) ((Kd.R_reads' (Kd.R_after (ok := (fun _ => True)) (by (with_reducible repeat (first | apply Kd.R_alloc | apply Kd.R_drewN | apply Kd.R_drew)); exact HO_7.out) hg hat)).2.2) KL29.out ((Kd.R_reads' (Kd.R_after (ok := (fun _ => True)) (by (with_reducible repeat (first | apply Kd.R_alloc | apply Kd.R_drewN | apply Kd.R_drew)); exact HO_7.out) hg hat)).2.1))); have n5_ := Aside0.mk (ho); clear HO_7; clear HI0; clear HB; clear HK; clear HR141; clear HO137; have HO_7 := n0_; have HI0 := n1_; have HB := n2_; have HK := n3_; have HR141 := n4_; have HO144 := n5_; clear n0_ n1_ n2_ n3_ n4_ n5_; clear ho hb hg hat) | ((with_reducible refine gate_callee (f := 48) rfl ?_); refine goesL_ (some 60) rfl rfl Try.func48 (by kernel_rfl) rfl #[.pointer (some ⟨g, 0, none⟩), .int .i64 3] rfl (by (try simp only [List.map_toArray, List.map_cons, List.map_nil]); first | done | rfl | (simp only [List.length_drop, List.length_take]; rfl)) ?_; (with_reducible refine (spec_l6Rd_pick.calls kj5 g s0_0 x1001_5 3 t145 t146 w0 _ ?side1 ?side2 A19.out).mono ?_); (case side1 => repeat (first | (with_reducible first | exact HI0.out | apply IsS81.alloc | apply IsS81.drewN | apply IsS81.drew | apply IsS81.set_1) | exact HI0.out)); (case side2 => repeat (first | (with_reducible first | exact HB.out | apply below_alloc | apply pw_below_drewN | apply below_drew1 | refine below_set ?_ (IsS81.ge HI0.out)) | exact HB.out)); rintro e w32 ⟨rfl, hi, hb, hk⟩; refine ⟨_, rfl, ?_⟩; have n0_ := Aside0.mk (Kd.R_mono (Kd.R_keep (IsS81.apart (show IsS81 w0 _ g s0_0 x1001_5 from by repeat (first | (with_reducible first | exact HI0.out | apply IsS81.alloc | apply IsS81.drewN | apply IsS81.drew | apply IsS81.set_1) | exact HI0.out)) (by (with_reducible repeat (first | apply Kd.R_alloc | apply Kd.R_drewN | apply Kd.R_drew)); exact HO_7.out) (by decide)) hk (fun _ h => h.2)) (fun _ h => h.1)); have n1_ := Aside0.mk (Kd.R_mono (Kd.R_keep (IsS81.apart (show IsS81 w0 _ g s0_0 x1001_5 from by repeat (first | (with_reducible first | exact HI0.out | apply IsS81.alloc | apply IsS81.drewN | apply IsS81.drew | apply IsS81.set_1) | exact HI0.out)) (by (with_reducible repeat (first | apply Kd.R_alloc | apply Kd.R_drewN | apply Kd.R_drew)); exact HO144.out) (by decide)) hk (fun _ h => h.2)) (fun _ h => h.1)); have n2_ := Aside0.mk (KeepBut.trans (by repeat (first | (with_reducible first | exact HK.out | apply KeepBut.set_ | apply keep_drewN | apply keep_drew | apply keep_alloc) | exact HK.out)) hk (.inl rfl)); have n3_ := Aside0.mk (hb); have n4_ := Aside0.mk (hi); clear HO_7; clear HO144; clear HK; clear HB; clear HI0; have HO_7 := n0_; have HO144 := n1_; have HK := n2_; have HB := n3_; have HI0 := n4_; clear n0_ n1_ n2_ n3_ n4_; (try clear hb); (try clear hb2); (try clear hk); (try clear hi)))
              go_ret
              exact ⟨_, by first | rfl | (simp [errW_none, errW_some] <;> rfl) | (simp [*, errW_none, errW_some] <;> rfl), Kd.Q_of_R (by (with_reducible repeat (first | apply Kd.R_alloc | apply Kd.R_drewN | apply Kd.R_drew)); exact Kd.R_mono HO144.out (fun _ hk => trivial)), by repeat (first | (with_reducible first | exact HI0.out | apply IsS81.alloc | apply IsS81.drewN | apply IsS81.drew | apply IsS81.set_1) | exact HI0.out), by repeat (first | (with_reducible first | exact HB.out | apply below_alloc | apply pw_below_drewN | apply below_drew1 | refine below_set ?_ (IsS81.ge HI0.out)) | exact HB.out), by repeat (first | (with_reducible first | exact HK.out | apply KeepBut.set_ | apply keep_drewN | apply keep_drew | apply keep_alloc) | exact HK.out)⟩
          · rw [if_neg c18] at H
            exact absurd H (by simp)
        · rw [if_neg c17] at H
          exact absurd H (by simp)
      · replace c16 := Bool.eq_false_iff.mpr c16
        subst c16
        have H1 : ((spec_l6Rd_pick.f kj5 s0_0 x1001_5 3).bind fun bt147 => (if bt147.1 = 0 then (if 1 ≤ y130.length ∧ y130.length ≤ 100 then (some (y130.drop 1 ++ [rd_T32 y130 0], bt147.2)) else none) else (some (y130, bt147.2)))) = some (r1, r2) := by rw [if_neg (show ¬ (false = true) by decide)] at H; exact H
        clear H
        have H := H1
        clear H1
        replace H := Option.bind_eq_some_iff.mp H
        obtain ⟨⟨t147, t148⟩, A330, H⟩ := H
        replace H : (if t147 = 0 then (if 1 ≤ y130.length ∧ y130.length ≤ 100 then (some (y130.drop 1 ++ [rd_T32 y130 0], t148)) else none) else (some (y130, t148))) = some (r1, r2) := H
        have A33 := Aside0.mk A330
        clear A330
        by_cases c34 : t147 = 0
        · rw [if_pos c34] at H
          have c34b0 : (t147 == 0) = true := beq_iff_eq.mpr c34
          have c34b1 : (t147 != 0) = false := bne_eq_false_iff_eq.mpr c34
          clear c34
          by_cases hl9 : 1 ≤ y130.length ∧ y130.length ≤ 100
          case neg => rw [if_neg hl9] at H; exact absurd H (by simp)
          rw [if_pos hl9] at H
          simp only [Option.some.injEq, Prod.mk.injEq] at H
          obtain ⟨hr1, rfl⟩ := H; have HR1 := Aside0.mk hr1; clear hr1
          go_wp2_with (first | ((with_reducible refine gate_callee (f := 48) rfl ?_); refine goesL_ (some 60) rfl rfl Try.func48 (by kernel_rfl) rfl #[.pointer (some ⟨g, 0, none⟩), .int .i64 3] rfl (by (try simp only [List.map_toArray, List.map_cons, List.map_nil]); first | done | rfl | (simp only [List.length_drop, List.length_take]; rfl)) ?_; (with_reducible refine (spec_l6Rd_pick.calls kj5 g s0_0 x1001_5 3 t147 t148 w0 _ ?side1 ?side2 A33.out).mono ?_); (case side1 => repeat (first | (with_reducible first | exact HI0.out | apply IsS81.alloc | apply IsS81.drewN | apply IsS81.drew | apply IsS81.set_1) | exact HI0.out)); (case side2 => repeat (first | (with_reducible first | exact HB.out | apply below_alloc | apply pw_below_drewN | apply below_drew1 | refine below_set ?_ (IsS81.ge HI0.out)) | exact HB.out)); rintro e w35 ⟨rfl, hi, hb, hk⟩; refine ⟨_, rfl, ?_⟩; have n0_ := Aside0.mk (Kd.R_mono (Kd.R_keep (IsS81.apart (show IsS81 w0 _ g s0_0 x1001_5 from by repeat (first | (with_reducible first | exact HI0.out | apply IsS81.alloc | apply IsS81.drewN | apply IsS81.drew | apply IsS81.set_1) | exact HI0.out)) (by (with_reducible repeat (first | apply Kd.R_alloc | apply Kd.R_drewN | apply Kd.R_drew)); exact HO_7.out) (by decide)) hk (fun _ h => h.2)) (fun _ h => h.1)); have n1_ := Aside0.mk (KeepBut.trans (by repeat (first | (with_reducible first | exact HK.out | apply KeepBut.set_ | apply keep_drewN | apply keep_drew | apply keep_alloc) | exact HK.out)) hk (.inl rfl)); have n2_ := Aside0.mk (hb); have n3_ := Aside0.mk (hi); clear HO_7; clear HK; clear HB; clear HI0; have HO_7 := n0_; have HK := n1_; have HB := n2_; have HI0 := n3_; clear n0_ n1_ n2_ n3_; (try clear hb); (try clear hb2); (try clear hk); (try clear hi)))
          obtain ⟨WW, hWW, hR9⟩ : ∃ WW : World, WW = _ ∧ Kd.R k32 32 WW w.heap.size (fun _ => True) _ y130 := ⟨_, rfl, Kd.R_mono (ok' := fun _ => True) HO_7.out (fun _ _ => trivial)⟩
          subst hWW
          obtain ⟨gq, cq, eq_, _, _, _⟩ := Kd.R_form hR9 (by omega)
          (first | subst eq_ | (injection eq_ with ea_ en_ ec_; (first | subst ea_ | (injection ea_ with ea_; subst ea_)); subst ec_; clear en_))
          have hQ9 := Kd.Q_of_R hR9
          have hc9 := (Kd.R_reads' hR9).2.1
          have hd9 := Kd.Q_drop (k := 1) hQ9 (by omega)
          obtain ⟨vc, hvc⟩ : ∃ vc, Value.slice (if cq = 1 then (some ⟨gq, 0, none⟩ : Option Addr) else (some ⟨gq, 0, none⟩ : Option Addr).map (·.add (1 * 2))) (y130.length - 1) (cq - 1) = vc := ⟨_, rfl⟩
          replace hd9 : Kd.Q k32 32 WW w.heap.size (fun _ => True) vc (y130.drop 1) := by rw [← hvc]; exact hd9
          obtain ⟨i9, hi9, _, hsz9, _⟩ := info_parts info32
          have hcut9 : ∀ W : World, (Instr.slice 23 (.slice (some ⟨gq, 0, none⟩) y130.length cq) (some (.int .i64 1)) none none).run Try.prog W = .ok vc W := fun W => by rw [← hvc]; exact cut_from (P := Try.prog) 23 32 .i64 Try.underlying23 hi9 2 hsz9 (some ⟨gq, 0, none⟩) y130.length cq 1 (by decide) (by omega) W
          obtain ⟨ad9, ead9, hx9, hy9⟩ := at_T32 (Kd.R_reads' hR9).2.2 0 (by decide) (by omega)
          cases ead9
          have hx9' : WW.cell? ⟨gq, 0, none⟩ = some (.int .i64 (rd_T32 y130 0).f0) := by simpa [Addr.add] using hx9
          have hy9' : WW.cell? ⟨gq, 1, none⟩ = some (.int .i64 (rd_T32 y130 0).f1) := by simpa [Addr.add] using hy9
          have hbs9 := HK.out.1
          have HQ9 := Aside0.mk hd9
          obtain ⟨p9, hp9⟩ : ∃ p, rd_T32 y130 0 = p := ⟨_, rfl⟩
          rw [hp9] at hx9' hy9'
          obtain ⟨y9, hy9_⟩ : ∃ y_, y130.drop 1 = y_ := ⟨_, rfl⟩
          have hyl9 : y9.length ≤ 100 := by rw [← hy9_, List.length_drop]; omega
          rw [hy9_] at HQ9
          clear hR9 hQ9 hd9 hvc hx9 hy9
          refine wpIn_wide (n := 0) |>.1 ?_
          have HF := Drawn.wide_plain Try.prog
          refine Drawn.act_name fun A0 hA0 => ?_
          obtain ⟨VS, hVS⟩ : ∃ VS : Value → Value → List (Option Tmp × Value), (fun u u' => [(some 62, .slice (some ⟨gq, 0, none⟩) y130.length cq), (some 63, vc), (some 64, .slice (some ⟨gq, 0, none⟩) y130.length cq), (some 65, .pointer (some ⟨gq, 0, none⟩)), (some 66, .agg #[.int .i64 p9.f0, .int .i64 p9.f1]), (some 67, .slice (some ⟨WW.heap.size, 0, none⟩) 1 1), (some 68, u), (some 2, u')]) = VS := ⟨_, rfl⟩
          have HN : ∀ u u', ((VS u u').filterMap (·.1)).Nodup := fun u u' => by rw [← hVS]; exact (show List.Nodup [(62 : Tmp), (63 : Tmp), (64 : Tmp), (65 : Tmp), (66 : Tmp), (67 : Tmp), (68 : Tmp), (2 : Tmp)] by decide)
          have E7 : ∀ (u u' : Value) (L : List Bool), (Drawn.fill (VS u u') L A0).tmps[7]?.getD undef = .slice (some ⟨gq, 0, none⟩) y130.length cq := fun u u' L => Drawn.fill_old _ _ _ (by rw [← hVS]; exact (show (7 : Tmp) ∉ [(62 : Tmp), (63 : Tmp), (64 : Tmp), (65 : Tmp), (66 : Tmp), (67 : Tmp), (68 : Tmp), (2 : Tmp)] by decide)) (by rw [← hA0]; rfl)
          have E62 : ∀ (u u' : Value) (L : List Bool), L[0]? = some true → (Drawn.fill (VS u u') L A0).tmps[62]?.getD undef = .slice (some ⟨gq, 0, none⟩) y130.length cq := fun u u' L h => Drawn.fill_at (HN u u') (j := 0) (by rw [← hVS]; rfl) h (by rw [← hA0]; simp)
          have E63 : ∀ (u u' : Value) (L : List Bool), L[1]? = some true → (Drawn.fill (VS u u') L A0).tmps[63]?.getD undef = vc := fun u u' L h => Drawn.fill_at (HN u u') (j := 1) (by rw [← hVS]; rfl) h (by rw [← hA0]; simp)
          have E64 : ∀ (u u' : Value) (L : List Bool), L[2]? = some true → (Drawn.fill (VS u u') L A0).tmps[64]?.getD undef = .slice (some ⟨gq, 0, none⟩) y130.length cq := fun u u' L h => Drawn.fill_at (HN u u') (j := 2) (by rw [← hVS]; rfl) h (by rw [← hA0]; simp)
          have E65 : ∀ (u u' : Value) (L : List Bool), L[3]? = some true → (Drawn.fill (VS u u') L A0).tmps[65]?.getD undef = .pointer (some ⟨gq, 0, none⟩) := fun u u' L h => Drawn.fill_at (HN u u') (j := 3) (by rw [← hVS]; rfl) h (by rw [← hA0]; simp)
          have E66 : ∀ (u u' : Value) (L : List Bool), L[4]? = some true → (Drawn.fill (VS u u') L A0).tmps[66]?.getD undef = .agg #[.int .i64 p9.f0, .int .i64 p9.f1] := fun u u' L h => Drawn.fill_at (HN u u') (j := 4) (by rw [← hVS]; rfl) h (by rw [← hA0]; simp)
          have E67 : ∀ (u u' : Value) (L : List Bool), L[5]? = some true → (Drawn.fill (VS u u') L A0).tmps[67]?.getD undef = .slice (some ⟨WW.heap.size, 0, none⟩) 1 1 := fun u u' L h => Drawn.fill_at (HN u u') (j := 5) (by rw [← hVS]; rfl) h (by rw [← hA0]; simp)
          have E68 : ∀ (u u' : Value) (L : List Bool), L[6]? = some true → (Drawn.fill (VS u u') L A0).tmps[68]?.getD undef = u := fun u u' L h => Drawn.fill_at (HN u u') (j := 6) (by rw [← hVS]; rfl) h (by rw [← hA0]; simp)
          obtain ⟨V, hV⟩ : ∃ V : List Bool → List (Option Tmp × Value) → World → Prop, (fun L vs w' => ∃ u u', vs = VS u u' ∧ (L[7]? = some true → u' = u) ∧ (L[6]? = some true → Kd.Q k32 32 w' w.heap.size (fun _ => True) u (y9 ++ [p9]) ∧ Below w.heap.size WW w' ∧ WW.grownBy w' vc.ownBlock) ∧ (L[6]? = some false → L[5]? = some true → w' = WW.drew.alloc (.cells #[.int .i64 p9.f0, .int .i64 p9.f1] 32)) ∧ (L[5]? = some false → w' = WW.drew)) = V := ⟨_, rfl⟩
          have keep : ∀ (L : List Bool) (u u' : Value) (w' : World) (i : Nat), i < 5 → V L (VS u u') w' → V (L.set i true) (VS u u') w' := by
            intro L u u' w' i hi h
            rw [← hV] at h ⊢
            obtain ⟨u1, u2, h1, h2⟩ := h
            refine ⟨u1, u2, h1, ?_⟩
            rw [List.getElem?_set_ne (by omega), List.getElem?_set_ne (by omega), List.getElem?_set_ne (by omega)]
            exact h2
          refine Drawn.drawn_any (by kernel_rfl) (Drawn.early_spec (by kernel_rfl)) (show List.Nodup [(62 : Tmp), (63 : Tmp), (64 : Tmp), (65 : Tmp), (66 : Tmp), (67 : Tmp), (68 : Tmp), (2 : Tmp)] by decide) V (fun L vs w' h => by rw [← hV] at h; obtain ⟨u, u', rfl, _⟩ := h; rw [← hVS]; rfl) (VS undef undef) (by rw [← hV]; exact ⟨_, _, rfl, fun h => absurd h (by decide), fun h => absurd h (by decide), fun _ h => absurd h (by decide), fun _ => rfl⟩) ?_ ?_
          · intro i o vs L w' ho hl hli hpre hcl hVL K hK
            have hVL' := hVL
            rw [← hV] at hVL'
            obtain ⟨u, u', rfl, hu7, hu6, hu56, hu5⟩ := hVL'
            have hii : i = 0 ∨ i = 1 ∨ i = 2 ∨ i = 3 ∨ i = 4 ∨ i = 5 ∨ i = 6 ∨ i = 7 := by have hq := (Array.getElem?_eq_some_iff.1 ho).1; simp at hq; omega
            have dn : ∀ j, j < 8 → L[j]? ≠ some true → L[j]? = some false := fun j hj h => by rw [List.getElem?_eq_getElem (by rw [hl]; exact hj)] at h ⊢; cases hc : L[j]'(by rw [hl]; exact hj) <;> simp_all
            rcases hii with rfl | rfl | rfl | rfl | rfl | rfl | rfl | rfl
            · obtain rfl := Option.some.inj ho
              have e7 := E7 u u' L
              refine Drawn.st_val HF rfl (by simp) rfl (v := .slice (some ⟨gq, 0, none⟩) y130.length cq) (w' := w') ?_ (hK _ w' (by have := keep L u u' w' 0 (by decide) hVL; rw [← hVS] at this ⊢; exact this))
              generalize Drawn.fill (VS u u') L A0 = A at e7 ⊢
              simp [execOp, go_sem, e7]
            · obtain rfl := Option.some.inj ho
              have e62 := E62 u u' L (hpre ⟨0, .data⟩ (by simp) rfl)
              refine Drawn.st_val HF rfl (by simp) rfl (v := vc) (w' := w') ?_ (hK _ w' (by have := keep L u u' w' 1 (by decide) hVL; rw [← hVS] at this ⊢; exact this))
              generalize Drawn.fill (VS u u') L A0 = A at e62 ⊢
              have s62 := (Drawn.eval_tmp A 62).trans e62
              change (execOp A.eval { dst := some 63, op := Op.slice 23 (Operand.tmp 62) (some (Operand.const (Value.int IntKind.i64 1))) none none, type := 23, pos := "l92_draw.go:128", after := #[{ on := 0, ground := Ground.data }], guard := none }).run Try.prog w' = _
              unfold execOp
              simp only [Option.map_some, Option.map_none, s62, show A.eval (.const (.int .i64 1)) = .int .i64 1 from rfl, Sem.run_bind, Sem.run_pure]
              rw [show (Instr.sliceAt 23 (.slice (some ⟨gq, 0, none⟩) y130.length cq) (some (.int .i64 1)) none none).run Try.prog w' = .ok vc w' from hcut9 w']
              rfl
            · obtain rfl := Option.some.inj ho
              have e7 := E7 u u' L
              refine Drawn.st_val HF rfl (by simp) rfl (v := .slice (some ⟨gq, 0, none⟩) y130.length cq) (w' := w') ?_ (hK _ w' (by have := keep L u u' w' 2 (by decide) hVL; rw [← hVS] at this ⊢; exact this))
              generalize Drawn.fill (VS u u') L A0 = A at e7 ⊢
              simp [execOp, go_sem, e7]
            · obtain rfl := Option.some.inj ho
              have e64 := E64 u u' L (hpre ⟨2, .data⟩ (by simp) rfl)
              refine Drawn.st_val HF rfl (by simp) rfl (v := .pointer (some ⟨gq, 0, none⟩)) (w' := w') ?_ (hK _ w' (by have := keep L u u' w' 3 (by decide) hVL; rw [← hVS] at this ⊢; exact this))
              have hpos : 0 < y130.length := by omega
              generalize Drawn.fill (VS u u') L A0 = A at e64 ⊢
              simp [execOp, go_sem, e64, hpos, Addr.add]
            · obtain rfl := Option.some.inj ho
              have e65 := E65 u u' L (hpre ⟨3, .data⟩ (by simp) rfl)
              have n5 := dn 5 (by decide) (fun h5 => by have h4 := hcl 5 _ rfl h5 ⟨4, .data⟩ (by simp) rfl; rw [hli] at h4; cases h4)
              obtain rfl := hu5 n5
              have c1 : WW.drew.cell? ⟨gq, 0, none⟩ = _ := hx9'
              have c2 : WW.drew.cell? ⟨gq, 1, none⟩ = _ := hy9'
              refine Drawn.st_val HF rfl (by simp) rfl (v := .agg #[.int .i64 p9.f0, .int .i64 p9.f1]) (w' := WW.drew) ?_ (hK _ WW.drew (by have := keep L u u' WW.drew 4 (by decide) hVL; rw [← hVS] at this ⊢; exact this))
              generalize Drawn.fill (VS u u') L A0 = A at e65 ⊢
              simp [execOp, go_sem, e65, c1, c2]
            · obtain rfl := Option.some.inj ho
              have e66 := E66 u u' L (hpre ⟨4, .data⟩ (by simp) rfl)
              have n6 := dn 6 (by decide) (fun h6 => by have h5 := hcl 6 _ rfl h6 ⟨5, .data⟩ (by simp) rfl; rw [hli] at h5; cases h5)
              obtain rfl := hu5 hli
              refine Drawn.st_val HF rfl (by simp) rfl (v := .slice (some ⟨WW.heap.size, 0, none⟩) 1 1) (w' := WW.drew.alloc (.cells #[.int .i64 p9.f0, .int .i64 p9.f1] 32)) ?_ (hK _ _ ?_)
              · generalize Drawn.fill (VS u u') L A0 = A at e66 ⊢
                simp [execOp, go_sem, e66]
              · rw [← hV]
                refine ⟨u, u', by rw [← hVS]; rfl, fun h => hu7 (by rwa [List.getElem?_set_ne (by decide)] at h), fun h => ?_, fun _ _ => rfl, fun h => ?_⟩
                · rw [List.getElem?_set_ne (by decide), n6] at h; cases h
                · rw [List.getElem?_set_self (by rw [hl]; decide)] at h; cases h
            · obtain rfl := Option.some.inj ho
              have e63 := E63 u u' L (hpre ⟨1, .data⟩ (by simp) rfl)
              have h5t := hpre ⟨5, .data⟩ (by simp) rfl
              have e67 := E67 u u' L h5t
              obtain rfl := hu56 hli h5t
              obtain ⟨v1, w1, hr9, q1, q2, q3, _⟩ := Kd.Q_run (P := Try.prog) (W := WW.drew) k32 (w0 := WW) w.heap.size 23 23 32 (.agg #[(.int .i64 0), (.int .i64 0)]) 16 Try.underlying23 info32 rfl (by decide) (by omega) vc y9 p9 _ (fun _ => True) (fun _ => False) (k32_mkM _ _ _ p9) (fun _ h => h.elim) (fun _ _ => trivial) HQ9.out (below_drew1 (Below.refl _ _)) hbs9 (by omega)
              refine Drawn.st_val HF rfl (by simp) rfl (v := v1) (w' := w1) ?_ (hK _ _ ?_)
              · generalize Drawn.fill (VS u u') L A0 = A at e63 e67 ⊢
                have s63 := (Drawn.eval_tmp A 63).trans e63
                have s67 := (Drawn.eval_tmp A 67).trans e67
                change (execOp A.eval { dst := some 68, op := Op.call { callee := Callee.builtin Builtin.append, args := #[Operand.tmp 63, Operand.tmp 67], argTypes := #[23, 23] }, type := 23, pos := "l92_draw.go:128", after := #[{ on := 1, ground := Ground.data }, { on := 5, ground := Ground.data }], guard := none }).run Try.prog _ = _
                unfold execOp
                simp only [resolve, invoke, builtin, Sem.run_bind, Sem.run_pure, Result.andThen_ok, List.map_toArray, List.map_cons, List.map_nil, s63, s67]
                rw [show WW.drew.heap.size = WW.heap.size from rfl] at hr9
                rw [show (#[.int .i64 p9.f0, .int .i64 p9.f1] : Array Value) = [.int .i64 p9.f0, .int .i64 p9.f1].toArray from rfl, hr9]
                rfl
              · rw [← hV]
                have n7 := dn 7 (by decide) (fun h7 => by have h6 := hcl 7 _ rfl h7 ⟨6, .data⟩ (by simp) rfl; rw [hli] at h6; cases h6)
                refine ⟨v1, u', by rw [← hVS]; rfl, fun h => ?_, fun _ => ⟨q1, q2, World.grownBy.trans (grown_of_below (below_drew1 (Below.refl WW.heap.size WW)) _) q3⟩, fun h => ?_, fun h => ?_⟩
                · rw [List.getElem?_set_ne (by decide), n7] at h; cases h
                · rw [List.getElem?_set_self (by rw [hl]; decide)] at h; cases h
                · rw [List.getElem?_set_ne (by decide), h5t] at h; cases h
            · obtain rfl := Option.some.inj ho
              have h6t := hpre ⟨6, .data⟩ (by simp) rfl
              have e68 := E68 u u' L h6t
              refine Drawn.st_val HF rfl (by simp) rfl (v := u) (w' := w') ?_ (hK _ w' ?_)
              · generalize Drawn.fill (VS u u') L A0 = A at e68 ⊢
                simp [execOp, go_sem, e68]
              · rw [← hV]
                refine ⟨u, u, by rw [← hVS]; rfl, fun _ => rfl, fun _ => hu6 h6t, fun h => ?_, fun h => hu5 (by rwa [List.getElem?_set_ne (by decide)] at h)⟩
                rw [List.getElem?_set_ne (by decide), h6t] at h; cases h
          · intro vs w' hVL
            rw [← hV] at hVL
            obtain ⟨u, u', rfl, hu7, hu6, _, _⟩ := hVL
            obtain rfl := hu7 rfl
            obtain ⟨q1, q2, q3⟩ := hu6 rfl
            rw [← hVS, ← hA0]
            simp only [List.size_toArray, List.length_cons, List.length_nil, Nat.reduceAdd, List.replicate, Drawn.fill, if_true, Act.put, List.setIfInBounds_toArray, List.set_cons_succ, List.set_cons_zero]
            have HIf := Aside0.mk (IsS81.grown HI0.out q3 (IsS81.own_neQ HI0.out HQ9.out (by decide)))
            have HBf := Aside0.mk (below_weaken HB.out HL.out q2)
            have HKf := Aside0.mk (KeepBut.trans HK.out (KeepBut.of_grown q3 g) (Kd.Q_base2 HQ9.out))
            have HQf := Aside0.mk q1
            clear q1 q2 q3 hu6 HN keep E7 E62 E63 E64 E65 E66 E67 E68 hVS hV hA0
            go_wp2
            go_ret
            exact ⟨_, rfl, by rw [← HR1.out, hy9_, hp9]; exact HQf.out, HIf.out, HBf.out, HKf.out⟩
        · rw [if_neg c34] at H
          have c34b0 : (t147 == 0) = false := beq_eq_false_iff_ne.mpr c34
          have c34b1 : (t147 != 0) = true := bne_iff_ne.mpr c34
          simp only [Option.some.injEq, Prod.mk.injEq] at H
          obtain ⟨rfl, rfl⟩ := H
          go_wp2_with (first | ((with_reducible refine gate_callee (f := 48) rfl ?_); refine goesL_ (some 60) rfl rfl Try.func48 (by kernel_rfl) rfl #[.pointer (some ⟨g, 0, none⟩), .int .i64 3] rfl (by (try simp only [List.map_toArray, List.map_cons, List.map_nil]); first | done | rfl | (simp only [List.length_drop, List.length_take]; rfl)) ?_; (with_reducible refine (spec_l6Rd_pick.calls kj5 g s0_0 x1001_5 3 t147 t148 w0 _ ?side1 ?side2 A33.out).mono ?_); (case side1 => repeat (first | (with_reducible first | exact HI0.out | apply IsS81.alloc | apply IsS81.drewN | apply IsS81.drew | apply IsS81.set_1) | exact HI0.out)); (case side2 => repeat (first | (with_reducible first | exact HB.out | apply below_alloc | apply pw_below_drewN | apply below_drew1 | refine below_set ?_ (IsS81.ge HI0.out)) | exact HB.out)); rintro e w36 ⟨rfl, hi, hb, hk⟩; refine ⟨_, rfl, ?_⟩; have n0_ := Aside0.mk (Kd.R_mono (Kd.R_keep (IsS81.apart (show IsS81 w0 _ g s0_0 x1001_5 from by repeat (first | (with_reducible first | exact HI0.out | apply IsS81.alloc | apply IsS81.drewN | apply IsS81.drew | apply IsS81.set_1) | exact HI0.out)) (by (with_reducible repeat (first | apply Kd.R_alloc | apply Kd.R_drewN | apply Kd.R_drew)); exact HO_7.out) (by decide)) hk (fun _ h => h.2)) (fun _ h => h.1)); have n1_ := Aside0.mk (KeepBut.trans (by repeat (first | (with_reducible first | exact HK.out | apply KeepBut.set_ | apply keep_drewN | apply keep_drew | apply keep_alloc) | exact HK.out)) hk (.inl rfl)); have n2_ := Aside0.mk (hb); have n3_ := Aside0.mk (hi); clear HO_7; clear HK; clear HB; clear HI0; have HO_7 := n0_; have HK := n1_; have HB := n2_; have HI0 := n3_; clear n0_ n1_ n2_ n3_; (try clear hb); (try clear hb2); (try clear hk); (try clear hi)))
          go_ret
          exact ⟨_, by first | rfl | (simp [errW_none, errW_some] <;> rfl) | (simp [*, errW_none, errW_some] <;> rfl), Kd.Q_of_R (by (with_reducible repeat (first | apply Kd.R_alloc | apply Kd.R_drewN | apply Kd.R_drew)); exact HO_7.out), by repeat (first | (with_reducible first | exact HI0.out | apply IsS81.alloc | apply IsS81.drewN | apply IsS81.drew | apply IsS81.set_1) | exact HI0.out), by repeat (first | (with_reducible first | exact HB.out | apply below_alloc | apply pw_below_drewN | apply below_drew1 | refine below_set ?_ (IsS81.ge HI0.out)) | exact HB.out), by repeat (first | (with_reducible first | exact HK.out | apply KeepBut.set_ | apply keep_drewN | apply keep_drew | apply keep_alloc) | exact HK.out)⟩

end Go.Proofs.Ytgdhgncdpmalcaa.Q
