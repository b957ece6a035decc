/- Whether a ring of corners is simple. -/
import Derived.Test.YtiieoannejlgiaaDrawn
import Derived.Test.YtiieoannejlgiaaRingFolds
import Derived.Sort.LoopGhostIn
import Derived.LaidEqlPtr
import Derived.Lib.Builder
import Derived.Test.YtiieoannejlgiaaQ23
namespace Go.Proofs.Ytiieoannejlgiaa.Ring
open Go.RowKit Go.Shelf Go.Proofs.Ytiieoannejlgiaa.Q Go.Proofs.Ytiieoannejlgiaa.Drawn Go.Proofs.YtiieoannejlgiaaW.PrintWords Go.Proofs.YtiieoannejlgiaaW.PrintLast Go.Proofs.YtiieoannejlgiaaW.PrintMore
set_option linter.unusedVariables false
set_option linter.unusedSimpArgs false
attribute [local go_sem] Oper.semAt_some
def sameP (p q : Pt) : Bool := p.f0 == q.f0 && (p.f1 == q.f1)
theorem run_samePt (d : Nat) (w : World) (x0 y0 x1 y1 : Int) : (Op.equalIn (d + 2) 37 (.agg #[.int .i64 x0, .int .i64 x1]) (.agg #[.int .i64 y0, .int .i64 y1])).run Try.prog w = .ok (x0 == y0 && (x1 == y1)) w := by
  refine eqA_of Try.underlying37 (by kernel_rfl) ?_
  refine eqf_cons (by rfl) (by go_simp; rfl) (by go_simp; rfl) (by go_simp) ?_
  exact eqf_last (by rfl) (by go_simp; rfl) (by go_simp; rfl) (by go_simp)
def sgnP (p q r : Pt) : Int := (Pure.sideR p.f0 p.f1 q.f0 q.f1 r.f0 r.f1).1
def meetPt (a b c d : Pt) : Bool := onPt a b c || onPt a b d || onPt c d a || onPt c d b || (decide (sgnP a b c * sgnP a b d < 0) && decide (sgnP c d a * sgnP c d b < 0))
theorem sgnP_bd (p q r : Pt) : -1 ≤ sgnP p q r ∧ sgnP p q r ≤ 1 := by
  unfold sgnP Pure.sideR Pure.sgn
  split
  · dsimp only; repeat' split
    all_goals omega
  · dsimp only; omega
theorem wrapS {x y : Int} (hx : -1 ≤ x ∧ x ≤ 1) (hy : -1 ≤ y ∧ y ≤ 1) : wrap64 (x * y) = x * y := by
  have := Pure.mul_bd (m := 1) (n := 1) hx hy (by omega) (by omega)
  unfold wrap64; omega
theorem meetPt_f (a b c d : Pt) : impl_sidesMeet.f 2 a.f0 a.f1 b.f0 b.f1 c.f0 c.f1 d.f0 d.f1 = some (meetPt a b c d) := by
  unfold impl_sidesMeet.f meetPt
  simp only [impl_sidesMeet.j0, Pure.impl_PointOn_eq, Pure.impl_PointSide_eq, Option.bind_some]
  have e : ∀ p q r : Pt, Pure.onR p.f0 p.f1 q.f0 q.f1 r.f0 r.f1 = onPt p q r := fun _ _ _ => rfl
  have e2 : ∀ p q r : Pt, (Pure.sideR p.f0 p.f1 q.f0 q.f1 r.f0 r.f1).1 = sgnP p q r := fun _ _ _ => rfl
  simp only [e, e2, wrapS (sgnP_bd _ _ _) (sgnP_bd _ _ _)]
  cases onPt a b c <;> cases onPt a b d <;> cases onPt c d a <;> cases onPt c d b <;> simp
  by_cases h : sgnP a b c * sgnP a b d < 0 <;> simp [h]
/-- Corner k is met again, t places after the next one. -/
def dupAt (l : List Pt) (k t : Nat) : Bool := sameP (at_ l ((k + 1 + t) % l.length)) (at_ l k)
def foldAt (l : List Pt) (k : Nat) : Bool := onPt (at_ l k) (nxt l k) (nxt l ((k + 1) % l.length)) || onPt (nxt l k) (nxt l ((k + 1) % l.length)) (at_ l k)
/-- Side k meets side k + 2 + t. -/
def meetAt (l : List Pt) (k t : Nat) : Bool := meetPt (at_ l k) (nxt l k) (at_ l ((k + 2 + t) % l.length)) (nxt l ((k + 2 + t) % l.length))
def simpleB (l : List Pt) : Bool := ((List.range l.length).all fun i => (List.range (l.length - 1)).all fun t => !dupAt l i t) && ((List.range l.length).all fun i => !foldAt l i && (List.range (l.length - 3)).all fun t => !meetAt l i t)
theorem simpleB_dup {l : List Pt} {i t : Nat} (hi : i < l.length) (ht : t < l.length - 1) (h : dupAt l i t = true) : simpleB l = false := by
  apply Bool.eq_false_iff.2
  intro c
  unfold simpleB at c
  simp only [Bool.and_eq_true, List.all_eq_true, List.mem_range] at c
  have := c.1 i hi t ht
  rw [h] at this; exact absurd this (by decide)
theorem simpleB_fold {l : List Pt} {i : Nat} (hi : i < l.length) (h : foldAt l i = true) : simpleB l = false := by
  apply Bool.eq_false_iff.2
  intro c
  unfold simpleB at c
  simp only [Bool.and_eq_true, List.all_eq_true, List.mem_range] at c
  have := (c.2 i hi).1
  rw [h] at this; exact absurd this (by decide)
theorem simpleB_meet {l : List Pt} {i t : Nat} (hi : i < l.length) (ht : t < l.length - 3) (h : meetAt l i t = true) : simpleB l = false := by
  apply Bool.eq_false_iff.2
  intro c
  unfold simpleB at c
  simp only [Bool.and_eq_true, List.all_eq_true, List.mem_range] at c
  have := (c.2 i hi).2 t ht
  rw [h] at this; exact absurd this (by decide)
theorem simpleB_yes {l : List Pt} (h1 : ∀ i, i < l.length → ∀ t, t < l.length - 1 → dupAt l i t = false) (h2 : ∀ i, i < l.length → foldAt l i = false ∧ ∀ t, t < l.length - 3 → meetAt l i t = false) : simpleB l = true := by
  unfold simpleB
  simp only [Bool.and_eq_true, List.all_eq_true, List.mem_range]
  exact ⟨fun i hi t ht => by rw [h1 i hi t ht]; rfl, fun i hi => ⟨by rw [(h2 i hi).1]; rfl, fun t ht => by rw [(h2 i hi).2 t ht]; rfl⟩⟩
theorem infoCorner : (Try.prog.info? 69).map (fun i => i.size) = some 3 := by kernel_rfl
theorem run_neq_same (w : World) (a : Addr) : (binOp .neq 52 (.pointer (some a)) (.pointer (some a))).run Try.prog w = .ok (.bool false) w := by
  obtain ⟨j, hj⟩ : ∃ j, Try.prog.info? 69 = some j := by
    have := infoCorner
    cases h : Try.prog.info? 69 with
    | none => rw [h] at this; cases this
    | some j => exact ⟨j, rfl⟩
  exact Lib.run_neq_ptr_same w a Try.underlying52 hj
theorem run_neq_other (w : World) {a b : Nat} (h : a ≠ b) (ha : Plain w a) (hb : Plain w b) : (binOp .neq 52 (.pointer (some ⟨a, 0, none⟩)) (.pointer (some ⟨b, 0, none⟩))).run Try.prog w = .ok (.bool true) w := by
  obtain ⟨j, hj, hz⟩ : ∃ j, Try.prog.info? 69 = some j ∧ j.size ≠ 0 := by
    have := infoCorner
    cases h : Try.prog.info? 69 with
    | none => rw [h] at this; cases this
    | some j => rw [h] at this; simp at this; exact ⟨j, rfl, by omega⟩
  obtain ⟨ca, ta, ha⟩ := ha
  obtain ⟨cb, tb, hb⟩ := hb
  have hab : (⟨a, 0, none⟩ : Addr) ≠ ⟨b, 0, none⟩ := fun e => h (by injection e)
  have hd : ∀ d : Nat, (Op.equalIn (d + 1) 52 (.pointer (some ⟨a, 0, none⟩)) (.pointer (some ⟨b, 0, none⟩))).run Try.prog w = .ok false w := fun d => by
    simp [Op.equalIn, run_underlying Try.underlying52, sizeOf, typeInfo, hj, hz, run_sameAddr_other w hab ha hb]
  simp only [binOp]
  simp [Op.equal, Op.maxDepth, hd 9999]
theorem mod_ne {k t n : Nat} (hk : k < n) (ht : t < n - 1) : (k + 1 + t) % n ≠ k := by
  intro e
  rcases Nat.lt_or_ge (k + 1 + t) n with q | q
  · rw [Nat.mod_eq_of_lt q] at e; omega
  · rw [Nat.mod_eq_sub_mod q, Nat.mod_eq_of_lt (by omega)] at e; omega
theorem mod_round {k n : Nat} (hk : k < n) (hn : 1 ≤ n) : (k + 1 + (n - 1)) % n = k := by
  rw [show k + 1 + (n - 1) = k + n from by omega, Nat.add_mod_right, Nat.mod_eq_of_lt hk]
theorem mod_next (a n : Nat) : (a % n + 1) % n = (a + 1) % n := by rw [Nat.mod_add_mod]
set_option maxRecDepth 100000 in
set_option maxHeartbeats 8000000 in
theorem simple_calls (top : Nat) (bs : Nat → Nat) (l : List Pt) (w : World) (hR : Ring w top bs l) (htop : top ≤ w.heap.size) :
    Calls Try.prog 77 #[.agg #[.pointer (some ⟨bs 0, 0, none⟩), .int .i64 l.length]] w fun e w' => e = .returned (.bool (simpleB l)) ∧ Below w.heap.size w w' := by
  refine (callsIn_wide (n := 0)).1 (callsIn_of_wp_marks Try.func77 rfl trivial ?_ rfl)
  simp only [Try.ntmps77, List.size_toArray, List.length_cons, List.length_nil, Nat.reduceAdd, Nat.reduceSub, Array.replicate_succ, Array.replicate_zero, List.push_toArray, List.append_toArray, List.nil_append, List.cons_append]
  have HR := Aside0.mk hR
  clear hR
  gi_wp2
  have hs : ((w.alloc (.cells #[.pointer (some ⟨bs 0, 0, none⟩), .int .i64 l.length] 54)).alloc (.cells #[.bool false] 4)).heap.size = w.heap.size + 2 := by simp
  obtain ⟨W0, hW0⟩ : ∃ W0, (w.alloc (.cells #[.pointer (some ⟨bs 0, 0, none⟩), .int .i64 l.length] 54)).alloc (.cells #[.bool false] 4) = W0 := ⟨_, rfl⟩
  have hc0 : W0.cell? ⟨w.heap.size + 1, 0, none⟩ = some (.bool false) := by rw [← hW0]; simp [go_sem]
  have hf0 : W0.frozen? ⟨w.heap.size + 1, 0, none⟩ = false := by rw [← hW0]; simp [go_sem]
  have ho0 : W0.cell? ⟨w.heap.size, 0, none⟩ = some (.pointer (some ⟨bs 0, 0, none⟩)) := by rw [← hW0]; simp [go_sem]
  have ho1 : W0.cell? ⟨w.heap.size, 1, none⟩ = some (.int .i64 l.length) := by rw [← hW0]; simp [go_sem]
  have hb0 : Below w.heap.size w W0 := by rw [← hW0]; exact ((Below.refl _ w).alloc (Nat.le_refl _) _).alloc (by simp) _
  rw [hW0] at hs ⊢
  clear hW0
  have HR0 := Aside0.mk ((HR.out.mono htop).below hb0)
  have kd : ∀ (D : Nat) (o : Obj), D < W0.heap.size → OwnFrom W0.heap.size (fun (_ : Nat) (W : World) => W.heap[D]? = some o) := fun D o hD => fun s A B row hs hg hr => (hg.block D (Array.getElem?_eq_some_iff.1 hs).1 (fun e => by have := (hr D e.symm).1; omega)).trans hs
  refine range_ring W0.heap.size bs l (HR0.out.mono (by omega)) (Nat.le_refl _) rfl
    (fun j W => (∀ i, i < j → ∀ t, t < l.length - 1 → dupAt l i t = false) ∧ Below W0.heap.size W0 W)
    (fun c W => c = .ret ∧ (W.cell? ⟨w.heap.size + 1, 0, none⟩ = some (.bool false) ∧ Below w.heap.size w W) ∧ ∃ i t, i < l.length ∧ t < l.length - 1 ∧ dupAt l i t = true)
    ?hI ?hIx ⟨fun i hi => by omega, Below.refl _ _⟩ ?a1 ?assign ?body ?done ?stop
  case hI => exact fun s A B row hs hg hr => ⟨hs.1, ownFrom_below (β := Unit) (Nat.le_refl _) (Nat.le_refl _) () A B row hs.2 hg hr⟩
  case hIx => exact fun c A B row hs hg hr => ⟨hs.1, ⟨cell_kept hs.2.1.1 hg (fun r e => (hr r e).2), ownFrom_below (β := Unit) (n₀ := w.heap.size) (w₀ := w) (Nat.le_refl _) (by omega) () A B row hs.2.1.2 hg hr⟩, hs.2.2⟩
  case assign =>
    intro r k W K hK
    gi_wp2
    exact hK
  case stop =>
    rintro D c W hD ⟨rfl, ⟨hc, hb⟩, i, t, hi, ht, hd⟩ hK
    have hsb := Aside0.mk (simpleB_dup hi ht hd)
    have hcD : (W.putObj D (.deferred none)).cell? ⟨w.heap.size + 1, 0, none⟩ = some (.bool false) := cell_kept hc (grownBy_putObj' _ D (.deferred none)) (fun r e => by cases e; exact ⟨_, hK, rfl⟩)
    gi_wp2
    refine ⟨by simp, .inl ⟨_, _, rfl, run_takeDeferred hK, ?_⟩⟩
    refine ⟨_, (by simp [results, Try.results77, go_sem, hcD]; rfl), ?_, hb.trans (belowK_b (w := W0) (by omega) _ _ _ _ hD hK rfl rfl)⟩
    rw [hsb.out]
  case body =>
    rintro r k W hk ⟨hp, hb⟩ hbt
    have HF := wide_round Try.prog r
    have hbw : Below w.heap.size w W := hb0.trans (hb.mono (by omega))
    have hcW := (hb.cell (p := ⟨w.heap.size + 1, 0, none⟩) (by dsimp only; omega)).trans hc0
    have hfW := (hb.frozen (p := ⟨w.heap.size + 1, 0, none⟩) (by dsimp only; omega)).trans hf0
    have hRW := Aside0.mk (((HR0.out.mono (show w.heap.size ≤ W0.heap.size by omega)).below hb).mono hb.size)
    have hn3 := HR.out.pos
    have hnx := hRW.out.next k hk
    gi_wp2
    gi_loopg [4] (l.length - 1) (fun g v4 wr => ∃ t : Nat, t + g = l.length - 1 ∧ v4 = .pointer (some ⟨bs ((k + 1 + t) % l.length), 0, none⟩) ∧ Aside0 (∀ s, s < t → dupAt l k s = false) ∧ Aside0 (Below W.heap.size W wr))
    case atStart => exact ⟨0, by omega, rfl, ⟨fun s hs => by omega⟩, ⟨Below.refl _ _⟩⟩
    case round =>
      obtain ⟨t, ht, rfl, HD, HB⟩ := hrel
      clear hcW hfW
      cases gk with
      | zero =>
        obtain rfl : t = l.length - 1 := by omega
        rw [mod_round hk (by omega)]
        have hq := run_neq_same wr ⟨bs k, 0, none⟩
        gi_wp2
        refine ⟨KeepsFrom.of_below HB.out, HB.out.mono hb.size, fun i hi t ht => ?_, hb.trans (HB.out.mono hb.size)⟩
        by_cases e : i = k
        · subst e; exact HD.out t ht
        · exact hp i (by omega) t ht
      | succ g =>
        have hRr := Aside0.mk (hRW.out.below HB.out)
        have hjl : (k + 1 + t) % l.length < l.length := Nat.mod_lt _ (by omega)
        have hne : bs ((k + 1 + t) % l.length) ≠ bs k := fun e => mod_ne hk (by omega) (hRr.out.inj _ _ hjl hk e)
        have hq := run_neq_other wr hne (hRr.out.blk _ hjl) (hRr.out.blk _ hk)
        have hjn0 := Aside0.mk (fun w' (h : Below wr.heap.size wr w') => (hRr.out.mono HB.out.size).below h |>.next _ hjl)
        rw [mod_next] at hjn0
        have hrx := Aside0.mk (fun w' (h : Below wr.heap.size wr w') => (hRr.out.mono HB.out.size).below h |>.x k hk)
        have hry := Aside0.mk (fun w' (h : Below wr.heap.size wr w') => (hRr.out.mono HB.out.size).below h |>.y k hk)
        have hjx := Aside0.mk (fun w' (h : Below wr.heap.size wr w') => (hRr.out.mono HB.out.size).below h |>.x _ hjl)
        have hjy := Aside0.mk (fun w' (h : Below wr.heap.size wr w') => (hRr.out.mono HB.out.size).below h |>.y _ hjl)
        have hdj := Aside0.mk (show dupAt l k t = sameP (at_ l ((k + 1 + t) % l.length)) (at_ l k) from rfl)
        generalize (k + 1 + t) % l.length = j at *
        clear hne
        gi_wp2
        clear hq
        obtain ⟨VS, hVS⟩ : ∃ VS : List (Option Tmp × Value), [(some 21, .pointer (some ⟨bs j, 0, none⟩)), (some 22, .pointer (some ⟨bs j, 0, none⟩)), (some 23, .pointer (some ⟨bs j, 0, none⟩)), (some 24, .agg #[.int .i64 (at_ l j).f0, .int .i64 (at_ l j).f1]), (some 25, .pointer (some ⟨bs k, 0, none⟩)), (some 26, .pointer (some ⟨bs k, 0, none⟩)), (some 27, .pointer (some ⟨bs k, 0, none⟩)), (some 28, .agg #[.int .i64 (at_ l k).f0, .int .i64 (at_ l k).f1]), (some 29, .bool (sameP (at_ l j) (at_ l k)))] = VS := ⟨_, rfl⟩
        have HN : (VS.filterMap (·.1)).Nodup := by rw [← hVS]; exact (show List.Nodup [(21 : Tmp), (22 : Tmp), (23 : Tmp), (24 : Tmp), (25 : Tmp), (26 : Tmp), (27 : Tmp), (28 : Tmp), (29 : Tmp)] by decide)
        refine act_name fun A0 hA0 => ?_
        have E3 : ∀ L : List Bool, (fill VS L A0).tmps[3]?.getD undef = .pointer (some ⟨bs k, 0, none⟩) := fun L => fill_old _ _ _ (by rw [← hVS]; exact (show (3 : Tmp) ∉ [(21 : Tmp), (22 : Tmp), (23 : Tmp), (24 : Tmp), (25 : Tmp), (26 : Tmp), (27 : Tmp), (28 : Tmp), (29 : Tmp)] by decide)) (by rw [← hA0]; rfl)
        have E4 : ∀ L : List Bool, (fill VS L A0).tmps[4]?.getD undef = .pointer (some ⟨bs j, 0, none⟩) := fun L => fill_old _ _ _ (by rw [← hVS]; exact (show (4 : Tmp) ∉ [(21 : Tmp), (22 : Tmp), (23 : Tmp), (24 : Tmp), (25 : Tmp), (26 : Tmp), (27 : Tmp), (28 : Tmp), (29 : Tmp)] by decide)) (by rw [← hA0]; rfl)
        have E21 : ∀ L : List Bool, L[0]? = some true → (fill VS L A0).tmps[21]?.getD undef = .pointer (some ⟨bs j, 0, none⟩) := fun L h => fill_at HN (j := 0) (by rw [← hVS]; rfl) h (by rw [← hA0]; simp)
        have E22 : ∀ L : List Bool, L[1]? = some true → (fill VS L A0).tmps[22]?.getD undef = .pointer (some ⟨bs j, 0, none⟩) := fun L h => fill_at HN (j := 1) (by rw [← hVS]; rfl) h (by rw [← hA0]; simp)
        have E23 : ∀ L : List Bool, L[2]? = some true → (fill VS L A0).tmps[23]?.getD undef = .pointer (some ⟨bs j, 0, none⟩) := fun L h => fill_at HN (j := 2) (by rw [← hVS]; rfl) h (by rw [← hA0]; simp)
        have E24 : ∀ L : List Bool, L[3]? = some true → (fill VS L A0).tmps[24]?.getD undef = .agg #[.int .i64 (at_ l j).f0, .int .i64 (at_ l j).f1] := fun L h => fill_at HN (j := 3) (by rw [← hVS]; rfl) h (by rw [← hA0]; simp)
        have E25 : ∀ L : List Bool, L[4]? = some true → (fill VS L A0).tmps[25]?.getD undef = .pointer (some ⟨bs k, 0, none⟩) := fun L h => fill_at HN (j := 4) (by rw [← hVS]; rfl) h (by rw [← hA0]; simp)
        have E26 : ∀ L : List Bool, L[5]? = some true → (fill VS L A0).tmps[26]?.getD undef = .pointer (some ⟨bs k, 0, none⟩) := fun L h => fill_at HN (j := 5) (by rw [← hVS]; rfl) h (by rw [← hA0]; simp)
        have E27 : ∀ L : List Bool, L[6]? = some true → (fill VS L A0).tmps[27]?.getD undef = .pointer (some ⟨bs k, 0, none⟩) := fun L h => fill_at HN (j := 6) (by rw [← hVS]; rfl) h (by rw [← hA0]; simp)
        have E28 : ∀ L : List Bool, L[7]? = some true → (fill VS L A0).tmps[28]?.getD undef = .agg #[.int .i64 (at_ l k).f0, .int .i64 (at_ l k).f1] := fun L h => fill_at HN (j := 7) (by rw [← hVS]; rfl) h (by rw [← hA0]; simp)
        refine drawn_same (by kernel_rfl) (early_spec (by kernel_rfl)) VS (by rw [← hVS]; rfl) HN (fun w' => Below wr.heap.size wr w') ((Below.refl _ _).drew) ?_ ?_
        · intro i o v L w' ho hv hpre hS K hK
          have hii : i = 0 ∨ i = 1 ∨ i = 2 ∨ i = 3 ∨ i = 4 ∨ i = 5 ∨ i = 6 ∨ i = 7 ∨ i = 8 := by have hq := (Array.getElem?_eq_some_iff.1 ho).1; simp at hq; omega
          rcases hii with rfl | rfl | rfl | rfl | rfl | rfl | rfl | rfl | rfl
          · obtain rfl := Option.some.inj ho
            obtain rfl : .pointer (some ⟨bs j, 0, none⟩) = v := (Prod.mk.inj (Option.some.inj (show (some (some 21, .pointer (some ⟨bs j, 0, none⟩)) : Option (Option Tmp × Value)) = _ from by rw [← hVS] at hv; exact hv))).2
            have e4 := E4 L
            refine st_val HF rfl (by simp) rfl (w' := w') ?_ (hK w' hS)
            generalize fill VS L A0 = A at e4 ⊢
            simp [execOp, go_sem, i64_w, e4]
          · obtain rfl := Option.some.inj ho
            obtain rfl : .pointer (some ⟨bs j, 0, none⟩) = v := (Prod.mk.inj (Option.some.inj (show (some (some 22, .pointer (some ⟨bs j, 0, none⟩)) : Option (Option Tmp × Value)) = _ from by rw [← hVS] at hv; exact hv))).2
            have e21 := E21 L (hpre ⟨0, .data⟩ (by simp) rfl)
            refine st_val HF rfl (by simp) rfl (w' := w') ?_ (hK w' hS)
            generalize fill VS L A0 = A at e21 ⊢
            simp [execOp, go_sem, i64_w, e21]
          · obtain rfl := Option.some.inj ho
            obtain rfl : .pointer (some ⟨bs j, 0, none⟩) = v := (Prod.mk.inj (Option.some.inj (show (some (some 23, .pointer (some ⟨bs j, 0, none⟩)) : Option (Option Tmp × Value)) = _ from by rw [← hVS] at hv; exact hv))).2
            have e22 := E22 L (hpre ⟨1, .data⟩ (by simp) rfl)
            refine st_val HF rfl (by simp) rfl (w' := w') ?_ (hK w' hS)
            generalize fill VS L A0 = A at e22 ⊢
            simp [execOp, go_sem, i64_w, e22]
          · obtain rfl := Option.some.inj ho
            obtain rfl : .agg #[.int .i64 (at_ l j).f0, .int .i64 (at_ l j).f1] = v := (Prod.mk.inj (Option.some.inj (show (some (some 24, .agg #[.int .i64 (at_ l j).f0, .int .i64 (at_ l j).f1]) : Option (Option Tmp × Value)) = _ from by rw [← hVS] at hv; exact hv))).2
            have e23 := E23 L (hpre ⟨2, .data⟩ (by simp) rfl)
            have c1 := hjx.out w' hS
            have c2 := hjy.out w' hS
            refine st_val HF rfl (by simp) rfl (w' := w') ?_ (hK w' hS)
            generalize fill VS L A0 = A at e23 ⊢
            simp [execOp, go_sem, i64_w, e23, c1, c2]
          · obtain rfl := Option.some.inj ho
            obtain rfl : .pointer (some ⟨bs k, 0, none⟩) = v := (Prod.mk.inj (Option.some.inj (show (some (some 25, .pointer (some ⟨bs k, 0, none⟩)) : Option (Option Tmp × Value)) = _ from by rw [← hVS] at hv; exact hv))).2
            have e3 := E3 L
            refine st_val HF rfl (by simp) rfl (w' := w') ?_ (hK w' hS)
            generalize fill VS L A0 = A at e3 ⊢
            simp [execOp, go_sem, i64_w, e3]
          · obtain rfl := Option.some.inj ho
            obtain rfl : .pointer (some ⟨bs k, 0, none⟩) = v := (Prod.mk.inj (Option.some.inj (show (some (some 26, .pointer (some ⟨bs k, 0, none⟩)) : Option (Option Tmp × Value)) = _ from by rw [← hVS] at hv; exact hv))).2
            have e25 := E25 L (hpre ⟨4, .data⟩ (by simp) rfl)
            refine st_val HF rfl (by simp) rfl (w' := w') ?_ (hK w' hS)
            generalize fill VS L A0 = A at e25 ⊢
            simp [execOp, go_sem, i64_w, e25]
          · obtain rfl := Option.some.inj ho
            obtain rfl : .pointer (some ⟨bs k, 0, none⟩) = v := (Prod.mk.inj (Option.some.inj (show (some (some 27, .pointer (some ⟨bs k, 0, none⟩)) : Option (Option Tmp × Value)) = _ from by rw [← hVS] at hv; exact hv))).2
            have e26 := E26 L (hpre ⟨5, .data⟩ (by simp) rfl)
            refine st_val HF rfl (by simp) rfl (w' := w') ?_ (hK w' hS)
            generalize fill VS L A0 = A at e26 ⊢
            simp [execOp, go_sem, i64_w, e26]
          · obtain rfl := Option.some.inj ho
            obtain rfl : .agg #[.int .i64 (at_ l k).f0, .int .i64 (at_ l k).f1] = v := (Prod.mk.inj (Option.some.inj (show (some (some 28, .agg #[.int .i64 (at_ l k).f0, .int .i64 (at_ l k).f1]) : Option (Option Tmp × Value)) = _ from by rw [← hVS] at hv; exact hv))).2
            have e27 := E27 L (hpre ⟨6, .data⟩ (by simp) rfl)
            have c1 := hrx.out w' hS
            have c2 := hry.out w' hS
            refine st_val HF rfl (by simp) rfl (w' := w') ?_ (hK w' hS)
            generalize fill VS L A0 = A at e27 ⊢
            simp [execOp, go_sem, i64_w, e27, c1, c2]
          · obtain rfl := Option.some.inj ho
            obtain rfl : .bool (sameP (at_ l j) (at_ l k)) = v := (Prod.mk.inj (Option.some.inj (show (some (some 29, .bool (sameP (at_ l j) (at_ l k))) : Option (Option Tmp × Value)) = _ from by rw [← hVS] at hv; exact hv))).2
            have e24 := E24 L (hpre ⟨3, .data⟩ (by simp) rfl)
            have e28 := E28 L (hpre ⟨7, .data⟩ (by simp) rfl)
            have e24 := E24 L (hpre ⟨3, .data⟩ (by simp) rfl)
            have e28 := E28 L (hpre ⟨7, .data⟩ (by simp) rfl)
            refine st_val HF rfl (by simp) rfl (w' := w') ?_ (hK w' hS)
            generalize fill VS L A0 = A at e24 e28 ⊢
            simp [execOp, go_sem, e24, e28, run_samePt]
            rfl
        · intro w' hS'
          rw [← hVS, ← hA0]
          simp only [List.size_toArray, List.length_cons, List.length_nil, Nat.reduceAdd, List.replicate, fill, if_true, Act.put, List.setIfInBounds_toArray, List.set_cons_succ, List.set_cons_zero]
          clear HN E3 E4 E21 E22 E23 E24 E25 E26 E27 E28 hVS hA0
          have HS := Aside0.mk (HB.out.trans (hS'.mono HB.out.size))
          have hjn := hjn0.out w' hS'
          have hcW := ((hb.trans (HS.out.mono hb.size)).cell (p := ⟨w.heap.size + 1, 0, none⟩) (by dsimp only; omega)).trans hc0
          have hfW := ((hb.trans (HS.out.mono hb.size)).frozen (p := ⟨w.heap.size + 1, 0, none⟩) (by dsimp only; omega)).trans hf0
          clear hS'
          cases hd : sameP (at_ l j) (at_ l k)
          · have hdt := Aside0.mk (hdj.out.trans hd)
            clear hd
            gi_wp2
            gi_roundg g
            case measure => omega
            case rel => exact ⟨t + 1, by omega, rfl, ⟨fun s hs => by
              by_cases e : s = t
              · subst e; exact hdt.out
              · exact HD.out s (by omega)⟩, HS⟩
          · have hdt := Aside0.mk (hdj.out.trans hd)
            clear hd
            gi_wp2
            refine ⟨(KeepsFrom.of_below HS.out).trans ((KeepsOthers.setCell _ _ _).from _), rfl, ⟨World.cell?_setCell_same _ _ _ hcW, (hbw.trans (HS.out.mono hbw.size)).setCell (p := ⟨w.heap.size + 1, 0, none⟩) (by dsimp only; omega) _⟩, k, t, hk, by omega, hdt.out⟩
  case done =>
    rintro D W hD ⟨hp, hb⟩ hK
    have ho0' := (hb.cell (p := ⟨w.heap.size, 0, none⟩) (by dsimp only; omega)).trans ho0
    have ho1' := (hb.cell (p := ⟨w.heap.size, 1, none⟩) (by dsimp only; omega)).trans ho1
    have hlD := (Array.getElem?_eq_some_iff.1 hK).1
    have hs1 := hb.size
    gi_wp2
    refine range_ring W.heap.size bs l ((HR0.out.below (hb.mono (by omega))).mono (by omega)) (Nat.le_refl _) rfl
      (fun j V => (∀ i, i < j → foldAt l i = false ∧ ∀ t, t < l.length - 3 → meetAt l i t = false) ∧ Below W.heap.size W V)
      (fun c V => c = .ret ∧ (V.cell? ⟨w.heap.size + 1, 0, none⟩ = some (.bool false) ∧ Below w.heap.size w V ∧ V.heap[D]? = some (.deferred (some []))) ∧ simpleB l = false)
      ?hI2 ?hIx2 ⟨fun i hi => by omega, Below.refl _ _⟩ ?a2 ?assign2 ?body2 ?done2 ?stop2
    case hI2 => exact fun s A B row hs hg hr => ⟨hs.1, ownFrom_below (β := Unit) (Nat.le_refl _) (Nat.le_refl _) () A B row hs.2 hg hr⟩
    case hIx2 => exact fun c A B row hs hg hr => ⟨hs.1, ⟨cell_kept hs.2.1.1 hg (fun r e => (hr r e).2), ownFrom_below (β := Unit) (n₀ := w.heap.size) (w₀ := w) (Nat.le_refl _) (by omega) () A B row hs.2.1.2.1 hg hr,
      (hg.block D (Array.getElem?_eq_some_iff.1 hs.2.1.2.2).1 (fun e => by have := (hr D e.symm).1; omega)).trans hs.2.1.2.2⟩, hs.2.2⟩
    case assign2 =>
      intro r k V K hK
      gi_wp2
      exact hK
    case stop2 =>
      rintro D2 c V hD2 ⟨rfl, ⟨hc, hbV, hKD⟩, hsb⟩ hK2
      have hne : D ≠ D2 := by omega
      have hKD2 : (V.putObj D2 (.deferred none)).heap[D]? = some (.deferred (some [])) := (World.putObj_heap_other hne).trans hKD
      have hcD : ((V.putObj D2 (.deferred none)).putObj D (.deferred none)).cell? ⟨w.heap.size + 1, 0, none⟩ = some (.bool false) :=
        cell_kept (cell_kept hc (grownBy_putObj' _ D2 (.deferred none)) (fun r e => by cases e; exact ⟨_, hK2, rfl⟩)) (grownBy_putObj' _ D (.deferred none)) (fun r e => by cases e; exact ⟨_, hKD2, rfl⟩)
      have hSB := Aside0.mk hsb
      clear hsb
      gi_wp2
      refine ⟨by simp, .inl ⟨_, _, rfl, run_takeDeferred hK2, by simp, .inl ⟨_, _, rfl, run_takeDeferred hKD2, ?_⟩⟩⟩
      refine ⟨_, (by simp [results, Try.results77, go_sem, hcD]; rfl), by rw [hSB.out], (hbV.trans (belowK_b (w := W0) (by omega) _ _ _ _ (by omega) hK2 rfl rfl)).trans (belowK_b (w := W0) (by omega) _ _ _ _ hD hKD2 rfl rfl)⟩
    case done2 =>
      rintro D2 V hD2 ⟨hp2, hbV⟩ hK2
      have hSB := Aside0.mk (simpleB_yes hp hp2)
      have hbV0 := hb.trans (hbV.mono hs1)
      have hcV := (hbV0.cell (p := ⟨w.heap.size + 1, 0, none⟩) (by dsimp only; omega)).trans hc0
      have hfV := (hbV0.frozen (p := ⟨w.heap.size + 1, 0, none⟩) (by dsimp only; omega)).trans hf0
      have hne : D ≠ D2 := by omega
      have hKV := (hbV.block D hlD).trans hK
      have hK2' := (KeepsOthers.setCell V ⟨w.heap.size + 1, 0, none⟩ (.bool true)).same D2 _ hK2 rfl
      have hKV' : ((V.setCell ⟨w.heap.size + 1, 0, none⟩ (.bool true)).putObj D2 (.deferred none)).heap[D]? = some (.deferred (some [])) := (World.putObj_heap_other hne).trans ((KeepsOthers.setCell V ⟨w.heap.size + 1, 0, none⟩ (.bool true)).same D _ hKV rfl)
      have hcD : (((V.setCell ⟨w.heap.size + 1, 0, none⟩ (.bool true)).putObj D2 (.deferred none)).putObj D (.deferred none)).cell? ⟨w.heap.size + 1, 0, none⟩ = some (.bool true) :=
        cell_kept (cell_kept (World.cell?_setCell_same _ _ _ hcV) (grownBy_putObj' _ D2 (.deferred none)) (fun r e => by cases e; exact ⟨_, hK2', rfl⟩)) (grownBy_putObj' _ D (.deferred none)) (fun r e => by cases e; exact ⟨_, hKV', rfl⟩)
      have hbE : Below w.heap.size w (((V.setCell ⟨w.heap.size + 1, 0, none⟩ (.bool true)).putObj D2 (.deferred none)).putObj D (.deferred none)) :=
        (((hb0.trans (hbV0.mono (by omega))).setCell (p := ⟨w.heap.size + 1, 0, none⟩) (by dsimp only; omega) _).trans (belowK_b (w := W0) (by omega) _ _ _ _ (by omega) hK2' rfl rfl)).trans (belowK_b (w := W0) (by omega) _ _ _ _ hD hKV' rfl rfl)
      clear hp hp2
      gi_wp2
      refine ⟨by simp, .inl ⟨_, _, rfl, run_takeDeferred hK2', by simp, .inl ⟨_, _, rfl, run_takeDeferred hKV', ?_⟩⟩⟩
      exact ⟨_, (by simp [results, Try.results77, go_sem, hcD]; rfl), by rw [hSB.out], hbE⟩
    case body2 =>
      rintro r k V hk ⟨hp2, hbV⟩ hbt
      have HF := wide_round Try.prog r
      have hbV0 := hb.trans (hbV.mono hs1)
      have hRV := Aside0.mk (((HR0.out.below (hbV0.mono (by omega))).mono (show w.heap.size ≤ V.heap.size by have := hbV.size; omega)))
      have hn3 := HR.out.pos
      have hnk : (k + 1) % l.length < l.length := Nat.mod_lt _ (by omega)
      have hn2 : ((k + 1) % l.length + 1) % l.length < l.length := Nat.mod_lt _ (by omega)
      have HFO := Aside0.mk (folds_at (bs k) (bs ((k + 1) % l.length)) (bs (((k + 1) % l.length + 1) % l.length)) (at_ l k) (nxt l k) (nxt l ((k + 1) % l.length)) V (hRV.out.x k hk) (hRV.out.y k hk) (hRV.out.next k hk) (hRV.out.x _ hnk) (hRV.out.y _ hnk) (hRV.out.next _ hnk) (hRV.out.x _ hn2) (hRV.out.y _ hn2) (hRV.out.lt k hk) (hRV.out.lt _ hnk) (hRV.out.lt _ hn2))
      have hcV := (hbV0.cell (p := ⟨w.heap.size + 1, 0, none⟩) (by dsimp only; omega)).trans hc0
      have hfV := (hbV0.frozen (p := ⟨w.heap.size + 1, 0, none⟩) (by dsimp only; omega)).trans hf0
      have HBT := Aside0.mk hbV0
      cases hfo : foldAt l k
      · have HFO' := Aside0.mk (HFO.out.mono (R' := fun e w' => e = .returned (.bool false) ∧ Below V.heap.size V w') (fun e w' h => ⟨by rw [h.1]; exact congrArg (fun b => Ending.returned (.bool b)) hfo, h.2⟩))
        have HFK := Aside0.mk hfo
        clear hfo HFO hcV hfV
        gi_wp2_with ((first | refine ⟨trivial, rfl, ?_⟩ | refine ⟨rfl, ?_⟩ | skip); gi_at_call 88; refine (CallsIn.inRound r (callsIn_wide.2 HFO'.out)).mono ?_; rintro e V1 ⟨rfl, hb1⟩; have hR1 := Aside0.mk ((hRV.out.below hb1).mono hb1.size); have HB1 := Aside0.mk hb1; have hn1 := hR1.out.next k hk; have hn2' := hR1.out.next _ hnk; clear hb1)
        gi_loopg [6] (l.length - 3) (fun g v6 wr => ∃ t : Nat, t + g = l.length - 3 ∧ v6 = .pointer (some ⟨bs ((k + 2 + t) % l.length), 0, none⟩) ∧ Aside0 (∀ s, s < t → meetAt l k s = false) ∧ Aside0 (Below V1.heap.size V1 wr))
        case atStart => exact ⟨0, by omega, by first | rfl | (rw [mod_next]; rfl), ⟨fun s hs => by omega⟩, ⟨Below.refl _ _⟩⟩
        case round =>
          clear hn1 hn2'
          obtain ⟨t, ht, rfl, HD, HB⟩ := hrel
          have hRr := Aside0.mk (hR1.out.below HB.out)
          have hjl : (k + 2 + t) % l.length < l.length := Nat.mod_lt _ (by omega)
          have hjn := hRr.out.next _ hjl
          cases gk with
          | zero =>
            obtain rfl : t = l.length - 3 := by omega
            rw [mod_next, show k + 2 + (l.length - 3) + 1 = k + 1 + (l.length - 1) - 0 - 0 - 0 + 0 - 0 from by omega] at hjn
            simp only [Nat.sub_zero, Nat.add_zero] at hjn
            rw [mod_round hk (by omega)] at hjn
            have hq := run_neq_same wr ⟨bs k, 0, none⟩
            gi_wp2
            refine ⟨KeepsFrom.of_below (HB1.out.trans (HB.out.mono HB1.out.size)), (HB1.out.trans (HB.out.mono HB1.out.size)).mono hbV.size, fun i hi => ?_, hbV.trans ((HB1.out.trans (HB.out.mono HB1.out.size)).mono hbV.size)⟩
            by_cases e : i = k
            · subst e; exact ⟨HFK.out, HD.out⟩
            · exact hp2 i (by omega)
          | succ g =>
            have hml : ((k + 2 + t) % l.length + 1) % l.length < l.length := Nat.mod_lt _ (by omega)
            have hmk : ((k + 2 + t) % l.length + 1) % l.length ≠ k := by rw [mod_next, show k + 2 + t + 1 = k + 1 + (t + 2) from by omega]; exact mod_ne hk (by omega)
            have hne : bs (((k + 2 + t) % l.length + 1) % l.length) ≠ bs k := fun e => hmk (hRr.out.inj _ _ hml hk e)
            have hq := run_neq_other wr hne (hRr.out.blk _ hml) (hRr.out.blk _ hk)
            have hRm := Aside0.mk (hRr.out.mono HB.out.size)
            have hrx := Aside0.mk (fun w' (h : Below wr.heap.size wr w') => (hRm.out.below h).x k hk)
            have hry := Aside0.mk (fun w' (h : Below wr.heap.size wr w') => (hRm.out.below h).y k hk)
            have hrn := Aside0.mk (fun w' (h : Below wr.heap.size wr w') => (hRm.out.below h).next k hk)
            have hnx := Aside0.mk (fun w' (h : Below wr.heap.size wr w') => (show w'.cell? ⟨bs ((k + 1) % l.length), 0, none⟩ = some (.int .i64 (nxt l k).f0) from (hRm.out.below h).x _ hnk))
            have hny := Aside0.mk (fun w' (h : Below wr.heap.size wr w') => (show w'.cell? ⟨bs ((k + 1) % l.length), 1, none⟩ = some (.int .i64 (nxt l k).f1) from (hRm.out.below h).y _ hnk))
            have hjx := Aside0.mk (fun w' (h : Below wr.heap.size wr w') => (hRm.out.below h).x _ hjl)
            have hjy := Aside0.mk (fun w' (h : Below wr.heap.size wr w') => (hRm.out.below h).y _ hjl)
            have hjm := Aside0.mk (fun w' (h : Below wr.heap.size wr w') => (hRm.out.below h).next _ hjl)
            have hmx := Aside0.mk (fun w' (h : Below wr.heap.size wr w') => (show w'.cell? ⟨bs (((k + 2 + t) % l.length + 1) % l.length), 0, none⟩ = some (.int .i64 (nxt l ((k + 2 + t) % l.length)).f0) from (hRm.out.below h).x _ hml))
            have hmy := Aside0.mk (fun w' (h : Below wr.heap.size wr w') => (show w'.cell? ⟨bs (((k + 2 + t) % l.length + 1) % l.length), 1, none⟩ = some (.int .i64 (nxt l ((k + 2 + t) % l.length)).f1) from (hRm.out.below h).y _ hml))
            have hdj := Aside0.mk (show meetAt l k t = meetPt (at_ l k) (nxt l k) (at_ l ((k + 2 + t) % l.length)) (nxt l ((k + 2 + t) % l.length)) from rfl)
            have hj1 := Aside0.mk (show ((k + 2 + t) % l.length + 1) % l.length = (k + 2 + (t + 1)) % l.length from by rw [mod_next]; rfl)
            generalize (k + 2 + t) % l.length = j at *
            clear hne hmk
            gi_wp2
            clear hq hjn
            obtain ⟨VS, hVS⟩ : ∃ VS : List (Option Tmp × Value), [(some 52, .pointer (some ⟨bs k, 0, none⟩)), (some 53, .pointer (some ⟨bs k, 0, none⟩)), (some 54, .pointer (some ⟨bs k, 0, none⟩)), (some 55, .agg #[.int .i64 (at_ l k).f0, .int .i64 (at_ l k).f1]), (some 56, .pointer (some ⟨bs k, 0, none⟩)), (some 57, .pointer (some ⟨bs k, 0, none⟩)), (some 58, .pointer (some ⟨bs k, 2, none⟩)), (some 59, .pointer (some ⟨bs ((k + 1) % l.length), 0, none⟩)), (some 60, .pointer (some ⟨bs ((k + 1) % l.length), 0, none⟩)), (some 61, .pointer (some ⟨bs ((k + 1) % l.length), 0, none⟩)), (some 62, .agg #[.int .i64 (nxt l k).f0, .int .i64 (nxt l k).f1]), (some 63, .pointer (some ⟨bs j, 0, none⟩)), (some 64, .pointer (some ⟨bs j, 0, none⟩)), (some 65, .pointer (some ⟨bs j, 0, none⟩)), (some 66, .agg #[.int .i64 (at_ l j).f0, .int .i64 (at_ l j).f1]), (some 67, .pointer (some ⟨bs j, 0, none⟩)), (some 68, .pointer (some ⟨bs j, 0, none⟩)), (some 69, .pointer (some ⟨bs j, 2, none⟩)), (some 70, .pointer (some ⟨bs ((j + 1) % l.length), 0, none⟩)), (some 71, .pointer (some ⟨bs ((j + 1) % l.length), 0, none⟩)), (some 72, .pointer (some ⟨bs ((j + 1) % l.length), 0, none⟩)), (some 73, .agg #[.int .i64 (nxt l j).f0, .int .i64 (nxt l j).f1]), (some 74, .bool (meetPt (at_ l k) (nxt l k) (at_ l j) (nxt l j)))] = VS := ⟨_, rfl⟩
            have HN : (VS.filterMap (·.1)).Nodup := by rw [← hVS]; exact (show List.Nodup [(52 : Tmp), (53 : Tmp), (54 : Tmp), (55 : Tmp), (56 : Tmp), (57 : Tmp), (58 : Tmp), (59 : Tmp), (60 : Tmp), (61 : Tmp), (62 : Tmp), (63 : Tmp), (64 : Tmp), (65 : Tmp), (66 : Tmp), (67 : Tmp), (68 : Tmp), (69 : Tmp), (70 : Tmp), (71 : Tmp), (72 : Tmp), (73 : Tmp), (74 : Tmp)] by decide)
            refine act_name fun A0 hA0 => ?_
            have E5 : ∀ L : List Bool, (fill VS L A0).tmps[5]?.getD undef = .pointer (some ⟨bs k, 0, none⟩) := fun L => fill_old _ _ _ (by rw [← hVS]; exact (show (5 : Tmp) ∉ [(52 : Tmp), (53 : Tmp), (54 : Tmp), (55 : Tmp), (56 : Tmp), (57 : Tmp), (58 : Tmp), (59 : Tmp), (60 : Tmp), (61 : Tmp), (62 : Tmp), (63 : Tmp), (64 : Tmp), (65 : Tmp), (66 : Tmp), (67 : Tmp), (68 : Tmp), (69 : Tmp), (70 : Tmp), (71 : Tmp), (72 : Tmp), (73 : Tmp), (74 : Tmp)] by decide)) (by rw [← hA0]; rfl)
            have E6 : ∀ L : List Bool, (fill VS L A0).tmps[6]?.getD undef = .pointer (some ⟨bs j, 0, none⟩) := fun L => fill_old _ _ _ (by rw [← hVS]; exact (show (6 : Tmp) ∉ [(52 : Tmp), (53 : Tmp), (54 : Tmp), (55 : Tmp), (56 : Tmp), (57 : Tmp), (58 : Tmp), (59 : Tmp), (60 : Tmp), (61 : Tmp), (62 : Tmp), (63 : Tmp), (64 : Tmp), (65 : Tmp), (66 : Tmp), (67 : Tmp), (68 : Tmp), (69 : Tmp), (70 : Tmp), (71 : Tmp), (72 : Tmp), (73 : Tmp), (74 : Tmp)] by decide)) (by rw [← hA0]; rfl)
            have E52 : ∀ L : List Bool, L[0]? = some true → (fill VS L A0).tmps[52]?.getD undef = .pointer (some ⟨bs k, 0, none⟩) := fun L h => fill_at HN (j := 0) (by rw [← hVS]; rfl) h (by rw [← hA0]; simp)
            have E53 : ∀ L : List Bool, L[1]? = some true → (fill VS L A0).tmps[53]?.getD undef = .pointer (some ⟨bs k, 0, none⟩) := fun L h => fill_at HN (j := 1) (by rw [← hVS]; rfl) h (by rw [← hA0]; simp)
            have E54 : ∀ L : List Bool, L[2]? = some true → (fill VS L A0).tmps[54]?.getD undef = .pointer (some ⟨bs k, 0, none⟩) := fun L h => fill_at HN (j := 2) (by rw [← hVS]; rfl) h (by rw [← hA0]; simp)
            have E55 : ∀ L : List Bool, L[3]? = some true → (fill VS L A0).tmps[55]?.getD undef = .agg #[.int .i64 (at_ l k).f0, .int .i64 (at_ l k).f1] := fun L h => fill_at HN (j := 3) (by rw [← hVS]; rfl) h (by rw [← hA0]; simp)
            have E56 : ∀ L : List Bool, L[4]? = some true → (fill VS L A0).tmps[56]?.getD undef = .pointer (some ⟨bs k, 0, none⟩) := fun L h => fill_at HN (j := 4) (by rw [← hVS]; rfl) h (by rw [← hA0]; simp)
            have E57 : ∀ L : List Bool, L[5]? = some true → (fill VS L A0).tmps[57]?.getD undef = .pointer (some ⟨bs k, 0, none⟩) := fun L h => fill_at HN (j := 5) (by rw [← hVS]; rfl) h (by rw [← hA0]; simp)
            have E58 : ∀ L : List Bool, L[6]? = some true → (fill VS L A0).tmps[58]?.getD undef = .pointer (some ⟨bs k, 2, none⟩) := fun L h => fill_at HN (j := 6) (by rw [← hVS]; rfl) h (by rw [← hA0]; simp)
            have E59 : ∀ L : List Bool, L[7]? = some true → (fill VS L A0).tmps[59]?.getD undef = .pointer (some ⟨bs ((k + 1) % l.length), 0, none⟩) := fun L h => fill_at HN (j := 7) (by rw [← hVS]; rfl) h (by rw [← hA0]; simp)
            have E60 : ∀ L : List Bool, L[8]? = some true → (fill VS L A0).tmps[60]?.getD undef = .pointer (some ⟨bs ((k + 1) % l.length), 0, none⟩) := fun L h => fill_at HN (j := 8) (by rw [← hVS]; rfl) h (by rw [← hA0]; simp)
            have E61 : ∀ L : List Bool, L[9]? = some true → (fill VS L A0).tmps[61]?.getD undef = .pointer (some ⟨bs ((k + 1) % l.length), 0, none⟩) := fun L h => fill_at HN (j := 9) (by rw [← hVS]; rfl) h (by rw [← hA0]; simp)
            have E62 : ∀ L : List Bool, L[10]? = some true → (fill VS L A0).tmps[62]?.getD undef = .agg #[.int .i64 (nxt l k).f0, .int .i64 (nxt l k).f1] := fun L h => fill_at HN (j := 10) (by rw [← hVS]; rfl) h (by rw [← hA0]; simp)
            have E63 : ∀ L : List Bool, L[11]? = some true → (fill VS L A0).tmps[63]?.getD undef = .pointer (some ⟨bs j, 0, none⟩) := fun L h => fill_at HN (j := 11) (by rw [← hVS]; rfl) h (by rw [← hA0]; simp)
            have E64 : ∀ L : List Bool, L[12]? = some true → (fill VS L A0).tmps[64]?.getD undef = .pointer (some ⟨bs j, 0, none⟩) := fun L h => fill_at HN (j := 12) (by rw [← hVS]; rfl) h (by rw [← hA0]; simp)
            have E65 : ∀ L : List Bool, L[13]? = some true → (fill VS L A0).tmps[65]?.getD undef = .pointer (some ⟨bs j, 0, none⟩) := fun L h => fill_at HN (j := 13) (by rw [← hVS]; rfl) h (by rw [← hA0]; simp)
            have E66 : ∀ L : List Bool, L[14]? = some true → (fill VS L A0).tmps[66]?.getD undef = .agg #[.int .i64 (at_ l j).f0, .int .i64 (at_ l j).f1] := fun L h => fill_at HN (j := 14) (by rw [← hVS]; rfl) h (by rw [← hA0]; simp)
            have E67 : ∀ L : List Bool, L[15]? = some true → (fill VS L A0).tmps[67]?.getD undef = .pointer (some ⟨bs j, 0, none⟩) := fun L h => fill_at HN (j := 15) (by rw [← hVS]; rfl) h (by rw [← hA0]; simp)
            have E68 : ∀ L : List Bool, L[16]? = some true → (fill VS L A0).tmps[68]?.getD undef = .pointer (some ⟨bs j, 0, none⟩) := fun L h => fill_at HN (j := 16) (by rw [← hVS]; rfl) h (by rw [← hA0]; simp)
            have E69 : ∀ L : List Bool, L[17]? = some true → (fill VS L A0).tmps[69]?.getD undef = .pointer (some ⟨bs j, 2, none⟩) := fun L h => fill_at HN (j := 17) (by rw [← hVS]; rfl) h (by rw [← hA0]; simp)
            have E70 : ∀ L : List Bool, L[18]? = some true → (fill VS L A0).tmps[70]?.getD undef = .pointer (some ⟨bs ((j + 1) % l.length), 0, none⟩) := fun L h => fill_at HN (j := 18) (by rw [← hVS]; rfl) h (by rw [← hA0]; simp)
            have E71 : ∀ L : List Bool, L[19]? = some true → (fill VS L A0).tmps[71]?.getD undef = .pointer (some ⟨bs ((j + 1) % l.length), 0, none⟩) := fun L h => fill_at HN (j := 19) (by rw [← hVS]; rfl) h (by rw [← hA0]; simp)
            have E72 : ∀ L : List Bool, L[20]? = some true → (fill VS L A0).tmps[72]?.getD undef = .pointer (some ⟨bs ((j + 1) % l.length), 0, none⟩) := fun L h => fill_at HN (j := 20) (by rw [← hVS]; rfl) h (by rw [← hA0]; simp)
            have E73 : ∀ L : List Bool, L[21]? = some true → (fill VS L A0).tmps[73]?.getD undef = .agg #[.int .i64 (nxt l j).f0, .int .i64 (nxt l j).f1] := fun L h => fill_at HN (j := 21) (by rw [← hVS]; rfl) h (by rw [← hA0]; simp)
            refine drawn_same (by kernel_rfl) (early_spec (by kernel_rfl)) VS (by rw [← hVS]; rfl) HN (fun w' => Below wr.heap.size wr w') ((Below.refl _ _).drew) ?_ ?_
            · intro i o v L w' ho hv hpre hS K hK
              have hii : i = 0 ∨ i = 1 ∨ i = 2 ∨ i = 3 ∨ i = 4 ∨ i = 5 ∨ i = 6 ∨ i = 7 ∨ i = 8 ∨ i = 9 ∨ i = 10 ∨ i = 11 ∨ i = 12 ∨ i = 13 ∨ i = 14 ∨ i = 15 ∨ i = 16 ∨ i = 17 ∨ i = 18 ∨ i = 19 ∨ i = 20 ∨ i = 21 ∨ i = 22 := by have hq := (Array.getElem?_eq_some_iff.1 ho).1; simp at hq; omega
              rcases hii with rfl | rfl | rfl | rfl | rfl | rfl | rfl | rfl | rfl | rfl | rfl | rfl | rfl | rfl | rfl | rfl | rfl | rfl | rfl | rfl | rfl | rfl | rfl
              · obtain rfl := Option.some.inj ho
                obtain rfl : .pointer (some ⟨bs k, 0, none⟩) = v := (Prod.mk.inj (Option.some.inj (show (some (some 52, .pointer (some ⟨bs k, 0, none⟩)) : Option (Option Tmp × Value)) = _ from by rw [← hVS] at hv; exact hv))).2
                have e5 := E5 L
                refine st_val HF rfl (by simp) rfl (w' := w') ?_ (hK w' hS)
                generalize fill VS L A0 = A at e5 ⊢
                simp [execOp, go_sem, i64_w, e5]
              · obtain rfl := Option.some.inj ho
                obtain rfl : .pointer (some ⟨bs k, 0, none⟩) = v := (Prod.mk.inj (Option.some.inj (show (some (some 53, .pointer (some ⟨bs k, 0, none⟩)) : Option (Option Tmp × Value)) = _ from by rw [← hVS] at hv; exact hv))).2
                have e52 := E52 L (hpre ⟨0, .data⟩ (by simp) rfl)
                refine st_val HF rfl (by simp) rfl (w' := w') ?_ (hK w' hS)
                generalize fill VS L A0 = A at e52 ⊢
                simp [execOp, go_sem, i64_w, e52]
              · obtain rfl := Option.some.inj ho
                obtain rfl : .pointer (some ⟨bs k, 0, none⟩) = v := (Prod.mk.inj (Option.some.inj (show (some (some 54, .pointer (some ⟨bs k, 0, none⟩)) : Option (Option Tmp × Value)) = _ from by rw [← hVS] at hv; exact hv))).2
                have e53 := E53 L (hpre ⟨1, .data⟩ (by simp) rfl)
                refine st_val HF rfl (by simp) rfl (w' := w') ?_ (hK w' hS)
                generalize fill VS L A0 = A at e53 ⊢
                simp [execOp, go_sem, i64_w, e53]
              · obtain rfl := Option.some.inj ho
                obtain rfl : .agg #[.int .i64 (at_ l k).f0, .int .i64 (at_ l k).f1] = v := (Prod.mk.inj (Option.some.inj (show (some (some 55, .agg #[.int .i64 (at_ l k).f0, .int .i64 (at_ l k).f1]) : Option (Option Tmp × Value)) = _ from by rw [← hVS] at hv; exact hv))).2
                have e54 := E54 L (hpre ⟨2, .data⟩ (by simp) rfl)
                have c1 := hrx.out w' hS
                have c2 := hry.out w' hS
                refine st_val HF rfl (by simp) rfl (w' := w') ?_ (hK w' hS)
                generalize fill VS L A0 = A at e54 ⊢
                simp [execOp, go_sem, i64_w, e54, c1, c2]
              · obtain rfl := Option.some.inj ho
                obtain rfl : .pointer (some ⟨bs k, 0, none⟩) = v := (Prod.mk.inj (Option.some.inj (show (some (some 56, .pointer (some ⟨bs k, 0, none⟩)) : Option (Option Tmp × Value)) = _ from by rw [← hVS] at hv; exact hv))).2
                have e5 := E5 L
                refine st_val HF rfl (by simp) rfl (w' := w') ?_ (hK w' hS)
                generalize fill VS L A0 = A at e5 ⊢
                simp [execOp, go_sem, i64_w, e5]
              · obtain rfl := Option.some.inj ho
                obtain rfl : .pointer (some ⟨bs k, 0, none⟩) = v := (Prod.mk.inj (Option.some.inj (show (some (some 57, .pointer (some ⟨bs k, 0, none⟩)) : Option (Option Tmp × Value)) = _ from by rw [← hVS] at hv; exact hv))).2
                have e56 := E56 L (hpre ⟨4, .data⟩ (by simp) rfl)
                refine st_val HF rfl (by simp) rfl (w' := w') ?_ (hK w' hS)
                generalize fill VS L A0 = A at e56 ⊢
                simp [execOp, go_sem, i64_w, e56]
              · obtain rfl := Option.some.inj ho
                obtain rfl : .pointer (some ⟨bs k, 2, none⟩) = v := (Prod.mk.inj (Option.some.inj (show (some (some 58, .pointer (some ⟨bs k, 2, none⟩)) : Option (Option Tmp × Value)) = _ from by rw [← hVS] at hv; exact hv))).2
                have e57 := E57 L (hpre ⟨5, .data⟩ (by simp) rfl)
                refine st_val HF rfl (by simp) rfl (w' := w') ?_ (hK w' hS)
                generalize fill VS L A0 = A at e57 ⊢
                simp [execOp, go_sem, i64_w, e57]
              · obtain rfl := Option.some.inj ho
                obtain rfl : .pointer (some ⟨bs ((k + 1) % l.length), 0, none⟩) = v := (Prod.mk.inj (Option.some.inj (show (some (some 59, .pointer (some ⟨bs ((k + 1) % l.length), 0, none⟩)) : Option (Option Tmp × Value)) = _ from by rw [← hVS] at hv; exact hv))).2
                have e58 := E58 L (hpre ⟨6, .data⟩ (by simp) rfl)
                have c1 := hrn.out w' hS
                refine st_val HF rfl (by simp) rfl (w' := w') ?_ (hK w' hS)
                generalize fill VS L A0 = A at e58 ⊢
                simp [execOp, go_sem, i64_w, e58, c1]
              · obtain rfl := Option.some.inj ho
                obtain rfl : .pointer (some ⟨bs ((k + 1) % l.length), 0, none⟩) = v := (Prod.mk.inj (Option.some.inj (show (some (some 60, .pointer (some ⟨bs ((k + 1) % l.length), 0, none⟩)) : Option (Option Tmp × Value)) = _ from by rw [← hVS] at hv; exact hv))).2
                have e59 := E59 L (hpre ⟨7, .data⟩ (by simp) rfl)
                refine st_val HF rfl (by simp) rfl (w' := w') ?_ (hK w' hS)
                generalize fill VS L A0 = A at e59 ⊢
                simp [execOp, go_sem, i64_w, e59]
              · obtain rfl := Option.some.inj ho
                obtain rfl : .pointer (some ⟨bs ((k + 1) % l.length), 0, none⟩) = v := (Prod.mk.inj (Option.some.inj (show (some (some 61, .pointer (some ⟨bs ((k + 1) % l.length), 0, none⟩)) : Option (Option Tmp × Value)) = _ from by rw [← hVS] at hv; exact hv))).2
                have e60 := E60 L (hpre ⟨8, .data⟩ (by simp) rfl)
                refine st_val HF rfl (by simp) rfl (w' := w') ?_ (hK w' hS)
                generalize fill VS L A0 = A at e60 ⊢
                simp [execOp, go_sem, i64_w, e60]
              · obtain rfl := Option.some.inj ho
                obtain rfl : .agg #[.int .i64 (nxt l k).f0, .int .i64 (nxt l k).f1] = v := (Prod.mk.inj (Option.some.inj (show (some (some 62, .agg #[.int .i64 (nxt l k).f0, .int .i64 (nxt l k).f1]) : Option (Option Tmp × Value)) = _ from by rw [← hVS] at hv; exact hv))).2
                have e61 := E61 L (hpre ⟨9, .data⟩ (by simp) rfl)
                have c1 := hnx.out w' hS
                have c2 := hny.out w' hS
                refine st_val HF rfl (by simp) rfl (w' := w') ?_ (hK w' hS)
                generalize fill VS L A0 = A at e61 ⊢
                simp [execOp, go_sem, i64_w, e61, c1, c2]
              · obtain rfl := Option.some.inj ho
                obtain rfl : .pointer (some ⟨bs j, 0, none⟩) = v := (Prod.mk.inj (Option.some.inj (show (some (some 63, .pointer (some ⟨bs j, 0, none⟩)) : Option (Option Tmp × Value)) = _ from by rw [← hVS] at hv; exact hv))).2
                have e6 := E6 L
                refine st_val HF rfl (by simp) rfl (w' := w') ?_ (hK w' hS)
                generalize fill VS L A0 = A at e6 ⊢
                simp [execOp, go_sem, i64_w, e6]
              · obtain rfl := Option.some.inj ho
                obtain rfl : .pointer (some ⟨bs j, 0, none⟩) = v := (Prod.mk.inj (Option.some.inj (show (some (some 64, .pointer (some ⟨bs j, 0, none⟩)) : Option (Option Tmp × Value)) = _ from by rw [← hVS] at hv; exact hv))).2
                have e63 := E63 L (hpre ⟨11, .data⟩ (by simp) rfl)
                refine st_val HF rfl (by simp) rfl (w' := w') ?_ (hK w' hS)
                generalize fill VS L A0 = A at e63 ⊢
                simp [execOp, go_sem, i64_w, e63]
              · obtain rfl := Option.some.inj ho
                obtain rfl : .pointer (some ⟨bs j, 0, none⟩) = v := (Prod.mk.inj (Option.some.inj (show (some (some 65, .pointer (some ⟨bs j, 0, none⟩)) : Option (Option Tmp × Value)) = _ from by rw [← hVS] at hv; exact hv))).2
                have e64 := E64 L (hpre ⟨12, .data⟩ (by simp) rfl)
                refine st_val HF rfl (by simp) rfl (w' := w') ?_ (hK w' hS)
                generalize fill VS L A0 = A at e64 ⊢
                simp [execOp, go_sem, i64_w, e64]
              · obtain rfl := Option.some.inj ho
                obtain rfl : .agg #[.int .i64 (at_ l j).f0, .int .i64 (at_ l j).f1] = v := (Prod.mk.inj (Option.some.inj (show (some (some 66, .agg #[.int .i64 (at_ l j).f0, .int .i64 (at_ l j).f1]) : Option (Option Tmp × Value)) = _ from by rw [← hVS] at hv; exact hv))).2
                have e65 := E65 L (hpre ⟨13, .data⟩ (by simp) rfl)
                have c1 := hjx.out w' hS
                have c2 := hjy.out w' hS
                refine st_val HF rfl (by simp) rfl (w' := w') ?_ (hK w' hS)
                generalize fill VS L A0 = A at e65 ⊢
                simp [execOp, go_sem, i64_w, e65, c1, c2]
              · obtain rfl := Option.some.inj ho
                obtain rfl : .pointer (some ⟨bs j, 0, none⟩) = v := (Prod.mk.inj (Option.some.inj (show (some (some 67, .pointer (some ⟨bs j, 0, none⟩)) : Option (Option Tmp × Value)) = _ from by rw [← hVS] at hv; exact hv))).2
                have e6 := E6 L
                refine st_val HF rfl (by simp) rfl (w' := w') ?_ (hK w' hS)
                generalize fill VS L A0 = A at e6 ⊢
                simp [execOp, go_sem, i64_w, e6]
              · obtain rfl := Option.some.inj ho
                obtain rfl : .pointer (some ⟨bs j, 0, none⟩) = v := (Prod.mk.inj (Option.some.inj (show (some (some 68, .pointer (some ⟨bs j, 0, none⟩)) : Option (Option Tmp × Value)) = _ from by rw [← hVS] at hv; exact hv))).2
                have e67 := E67 L (hpre ⟨15, .data⟩ (by simp) rfl)
                refine st_val HF rfl (by simp) rfl (w' := w') ?_ (hK w' hS)
                generalize fill VS L A0 = A at e67 ⊢
                simp [execOp, go_sem, i64_w, e67]
              · obtain rfl := Option.some.inj ho
                obtain rfl : .pointer (some ⟨bs j, 2, none⟩) = v := (Prod.mk.inj (Option.some.inj (show (some (some 69, .pointer (some ⟨bs j, 2, none⟩)) : Option (Option Tmp × Value)) = _ from by rw [← hVS] at hv; exact hv))).2
                have e68 := E68 L (hpre ⟨16, .data⟩ (by simp) rfl)
                refine st_val HF rfl (by simp) rfl (w' := w') ?_ (hK w' hS)
                generalize fill VS L A0 = A at e68 ⊢
                simp [execOp, go_sem, i64_w, e68]
              · obtain rfl := Option.some.inj ho
                obtain rfl : .pointer (some ⟨bs ((j + 1) % l.length), 0, none⟩) = v := (Prod.mk.inj (Option.some.inj (show (some (some 70, .pointer (some ⟨bs ((j + 1) % l.length), 0, none⟩)) : Option (Option Tmp × Value)) = _ from by rw [← hVS] at hv; exact hv))).2
                have e69 := E69 L (hpre ⟨17, .data⟩ (by simp) rfl)
                have c1 := hjm.out w' hS
                refine st_val HF rfl (by simp) rfl (w' := w') ?_ (hK w' hS)
                generalize fill VS L A0 = A at e69 ⊢
                simp [execOp, go_sem, i64_w, e69, c1]
              · obtain rfl := Option.some.inj ho
                obtain rfl : .pointer (some ⟨bs ((j + 1) % l.length), 0, none⟩) = v := (Prod.mk.inj (Option.some.inj (show (some (some 71, .pointer (some ⟨bs ((j + 1) % l.length), 0, none⟩)) : Option (Option Tmp × Value)) = _ from by rw [← hVS] at hv; exact hv))).2
                have e70 := E70 L (hpre ⟨18, .data⟩ (by simp) rfl)
                refine st_val HF rfl (by simp) rfl (w' := w') ?_ (hK w' hS)
                generalize fill VS L A0 = A at e70 ⊢
                simp [execOp, go_sem, i64_w, e70]
              · obtain rfl := Option.some.inj ho
                obtain rfl : .pointer (some ⟨bs ((j + 1) % l.length), 0, none⟩) = v := (Prod.mk.inj (Option.some.inj (show (some (some 72, .pointer (some ⟨bs ((j + 1) % l.length), 0, none⟩)) : Option (Option Tmp × Value)) = _ from by rw [← hVS] at hv; exact hv))).2
                have e71 := E71 L (hpre ⟨19, .data⟩ (by simp) rfl)
                refine st_val HF rfl (by simp) rfl (w' := w') ?_ (hK w' hS)
                generalize fill VS L A0 = A at e71 ⊢
                simp [execOp, go_sem, i64_w, e71]
              · obtain rfl := Option.some.inj ho
                obtain rfl : .agg #[.int .i64 (nxt l j).f0, .int .i64 (nxt l j).f1] = v := (Prod.mk.inj (Option.some.inj (show (some (some 73, .agg #[.int .i64 (nxt l j).f0, .int .i64 (nxt l j).f1]) : Option (Option Tmp × Value)) = _ from by rw [← hVS] at hv; exact hv))).2
                have e72 := E72 L (hpre ⟨20, .data⟩ (by simp) rfl)
                have c1 := hmx.out w' hS
                have c2 := hmy.out w' hS
                refine st_val HF rfl (by simp) rfl (w' := w') ?_ (hK w' hS)
                generalize fill VS L A0 = A at e72 ⊢
                simp [execOp, go_sem, i64_w, e72, c1, c2]
              · obtain rfl := Option.some.inj ho
                obtain rfl : .bool (meetPt (at_ l k) (nxt l k) (at_ l j) (nxt l j)) = v := (Prod.mk.inj (Option.some.inj (show (some (some 74, .bool (meetPt (at_ l k) (nxt l k) (at_ l j) (nxt l j))) : Option (Option Tmp × Value)) = _ from by rw [← hVS] at hv; exact hv))).2
                have e55 := E55 L (hpre ⟨3, .data⟩ (by simp) rfl)
                have e62 := E62 L (hpre ⟨10, .data⟩ (by simp) rfl)
                have e66 := E66 L (hpre ⟨14, .data⟩ (by simp) rfl)
                have e73 := E73 L (hpre ⟨21, .data⟩ (by simp) rfl)
                refine st_call HF rfl (by simp) rfl (w := w') (f := 89) (args := #[.agg #[.int .i64 (at_ l k).f0, .int .i64 (at_ l k).f1], .agg #[.int .i64 (nxt l k).f0, .int .i64 (nxt l k).f1], .agg #[.int .i64 (at_ l j).f0, .int .i64 (at_ l j).f1], .agg #[.int .i64 (nxt l j).f0, .int .i64 (nxt l j).f1]]) (v := .bool (meetPt (at_ l k) (nxt l k) (at_ l j) (nxt l j))) ?_ ?_
                · generalize fill VS L A0 = A at e55 e62 e66 e73 ⊢
                  simp [execOp, resolve, go_sem, e55, e62, e66, e73]
                · refine (impl_sidesMeet.calls 2 _ _ _ _ _ _ _ _ _ w' (meetPt_f (at_ l k) (nxt l k) (at_ l j) (nxt l j))).mono ?_; rintro e w2 ⟨rfl, hb2⟩; exact ⟨rfl, hK w2 (hS.trans (hb2.mono hS.size))⟩
            · intro w' hS'
              rw [← hVS, ← hA0]
              simp only [List.size_toArray, List.length_cons, List.length_nil, Nat.reduceAdd, List.replicate, fill, if_true, Act.put, List.setIfInBounds_toArray, List.set_cons_succ, List.set_cons_zero]
              clear HN E5 E6 E52 E53 E54 E55 E56 E57 E58 E59 E60 E61 E62 E63 E64 E65 E66 E67 E68 E69 E70 E71 E72 E73 hVS hA0
              have HS := Aside0.mk (HB.out.trans (hS'.mono HB.out.size))
              have hjn := hjm.out w' hS'
              have HV := Aside0.mk (HB1.out.trans (HS.out.mono HB1.out.size))
              have hcW := ((HBT.out.trans (HV.out.mono HBT.out.size)).cell (p := ⟨w.heap.size + 1, 0, none⟩) (by dsimp only; omega)).trans hc0
              have hfW := ((HBT.out.trans (HV.out.mono HBT.out.size)).frozen (p := ⟨w.heap.size + 1, 0, none⟩) (by dsimp only; omega)).trans hf0
              clear hS'
              cases hd : meetPt (at_ l k) (nxt l k) (at_ l j) (nxt l j)
              · have hdt := Aside0.mk (hdj.out.trans hd)
                clear hd
                gi_wp2
                gi_roundg g
                case measure => omega
                case rel => exact ⟨t + 1, by omega, by rw [hj1.out], ⟨fun s hs => by
                  by_cases e : s = t
                  · subst e; exact hdt.out
                  · exact HD.out s (by omega)⟩, HS⟩
              · have hdt := Aside0.mk (simpleB_meet hk (show t < l.length - 3 by omega) (hdj.out.trans hd))
                clear hd
                gi_wp2
                refine ⟨(KeepsFrom.of_below HV.out).trans ((KeepsOthers.setCell _ _ _).from _), rfl, ⟨World.cell?_setCell_same _ _ _ hcW, (hb0.trans ((HBT.out.trans (HV.out.mono HBT.out.size)).mono (by omega))).setCell (p := ⟨w.heap.size + 1, 0, none⟩) (by dsimp only; omega) _, ?_⟩, hdt.out⟩
                exact (KeepsOthers.setCell _ _ _).same D _ ((HV.out.block D (by have := hbV.size; omega)).trans ((hbV.block D hlD).trans hK)) rfl
      · have HFO' := Aside0.mk (HFO.out.mono (R' := fun e w' => e = .returned (.bool true) ∧ Below V.heap.size V w') (fun e w' h => ⟨by rw [h.1]; exact congrArg (fun b => Ending.returned (.bool b)) hfo, h.2⟩))
        have hSB := Aside0.mk (simpleB_fold hk hfo)
        clear hfo HFO hcV hfV
        gi_wp2_with ((first | refine ⟨trivial, rfl, ?_⟩ | refine ⟨rfl, ?_⟩ | skip); gi_at_call 88; refine (CallsIn.inRound r (callsIn_wide.2 HFO'.out)).mono ?_; rintro e V1 ⟨rfl, hb1⟩; have HV := Aside0.mk hb1; have hcW := ((HBT.out.trans (hb1.mono HBT.out.size)).cell (p := ⟨w.heap.size + 1, 0, none⟩) (by dsimp only; omega)).trans hc0; have hfW := ((HBT.out.trans (hb1.mono HBT.out.size)).frozen (p := ⟨w.heap.size + 1, 0, none⟩) (by dsimp only; omega)).trans hf0; clear hb1)
        refine ⟨(KeepsFrom.of_below HV.out).trans ((KeepsOthers.setCell _ _ _).from _), rfl, ⟨World.cell?_setCell_same _ _ _ hcW, (hb0.trans ((HBT.out.trans (HV.out.mono HBT.out.size)).mono (by omega))).setCell (p := ⟨w.heap.size + 1, 0, none⟩) (by dsimp only; omega) _, ?_⟩, hSB.out⟩
        exact (KeepsOthers.setCell _ _ _).same D _ ((HV.out.block D (by have := hbV.size; omega)).trans ((hbV.block D hlD).trans hK)) rfl

end Go.Proofs.Ytiieoannejlgiaa.Ring
