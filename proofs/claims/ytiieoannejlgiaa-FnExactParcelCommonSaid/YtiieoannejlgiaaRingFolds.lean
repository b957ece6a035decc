/- foldsBack: whether the side from a corner and the next one have more than a corner in common. -/
import Derived.Test.YtiieoannejlgiaaDrawn
import Derived.Test.YtiieoannejlgiaaPOn
import Derived.Test.YtiieoannejlgiaaQ22
namespace Go.Proofs.Ytiieoannejlgiaa.Ring
open Go.RowKit Go.Shelf Go.Proofs.Ytiieoannejlgiaa.Q Go.Proofs.Ytiieoannejlgiaa.Drawn Go.Proofs.YtiieoannejlgiaaW.PrintWords Go.Proofs.YtiieoannejlgiaaW.PrintLast Go.Proofs.YtiieoannejlgiaaW.PrintMore
set_option linter.unusedVariables false
set_option linter.unusedSimpArgs false
attribute [local go_sem] Oper.semAt_some

def onPt (p q r : Pt) : Bool := Pure.onR p.f0 p.f1 q.f0 q.f1 r.f0 r.f1
theorem onPt_f (p q r : Pt) : impl_PointOn.f 1 p.f0 p.f1 q.f0 q.f1 r.f0 r.f1 = some (onPt p q r) := Pure.impl_PointOn_eq 0 _ _ _ _ _ _
set_option maxRecDepth 100000 in
set_option maxHeartbeats 4000000 in
theorem folds_at (b1 b2 b3 : Nat) (p1 p2 p3 : Pt) (w : World) (x1 : w.cell? ⟨b1, 0, none⟩ = some (.int .i64 p1.f0)) (y1 : w.cell? ⟨b1, 1, none⟩ = some (.int .i64 p1.f1)) (n1 : w.cell? ⟨b1, 2, none⟩ = some (.pointer (some ⟨b2, 0, none⟩)))
    (x2 : w.cell? ⟨b2, 0, none⟩ = some (.int .i64 p2.f0)) (y2 : w.cell? ⟨b2, 1, none⟩ = some (.int .i64 p2.f1)) (n2 : w.cell? ⟨b2, 2, none⟩ = some (.pointer (some ⟨b3, 0, none⟩)))
    (x3 : w.cell? ⟨b3, 0, none⟩ = some (.int .i64 p3.f0)) (y3 : w.cell? ⟨b3, 1, none⟩ = some (.int .i64 p3.f1)) (s1 : b1 < w.heap.size) (s2 : b2 < w.heap.size) (s3 : b3 < w.heap.size) :
    Calls Try.prog 88 #[.pointer (some ⟨b1, 0, none⟩)] w fun e w' => e = .returned (.bool (onPt p1 p2 p3 || onPt p2 p3 p1)) ∧ Below w.heap.size w w' := by
  refine (callsIn_wide (n := 0)).1 (callsIn_of_wp Try.func88 rfl trivial ?_ rfl)
  simp only [Try.ntmps88, List.size_toArray, List.length_cons, List.length_nil, Nat.reduceAdd, Nat.reduceSub, Array.replicate_succ, Array.replicate_zero, List.push_toArray, List.append_toArray, List.nil_append, List.cons_append]
  have HF := wide_plain Try.prog
  gi_wp2
  obtain ⟨VS, hVS⟩ : ∃ VS : (Nat → Nat) → List (Option Tmp × Value), (fun B => [(some 6, .pointer (some ⟨b1, 0, none⟩)), (some 7, .pointer (some ⟨b1, 0, none⟩)), (some 8, .pointer (some ⟨b1, 0, none⟩)), (some 9, .agg #[.int .i64 p1.f0, .int .i64 p1.f1]), (some 10, .pointer (some ⟨b1, 0, none⟩)), (some 11, .pointer (some ⟨b1, 0, none⟩)), (some 12, .pointer (some ⟨b1, 2, none⟩)), (some 13, .pointer (some ⟨b2, 0, none⟩)), (some 14, .pointer (some ⟨b2, 0, none⟩)), (some 15, .pointer (some ⟨b2, 0, none⟩)), (some 16, .agg #[.int .i64 p2.f0, .int .i64 p2.f1]), (some 17, .pointer (some ⟨b1, 0, none⟩)), (some 18, .pointer (some ⟨b1, 0, none⟩)), (some 19, .pointer (some ⟨b1, 2, none⟩)), (some 20, .pointer (some ⟨b2, 0, none⟩)), (some 21, .pointer (some ⟨b2, 0, none⟩)), (some 22, .pointer (some ⟨b2, 2, none⟩)), (some 23, .pointer (some ⟨b3, 0, none⟩)), (some 24, .pointer (some ⟨b3, 0, none⟩)), (some 25, .pointer (some ⟨b3, 0, none⟩)), (some 26, .agg #[.int .i64 p3.f0, .int .i64 p3.f1]), (some 3, .pointer (some ⟨B 0, 0, none⟩)), (some 4, .pointer (some ⟨B 1, 0, none⟩)), (some 5, .pointer (some ⟨B 2, 0, none⟩)), (none, undef), (none, undef), (none, undef)]) = VS := ⟨_, rfl⟩
  have HN : ∀ B, ((VS B).filterMap (·.1)).Nodup := fun B => by rw [← hVS]; exact (show List.Nodup [(6 : Tmp), (7 : Tmp), (8 : Tmp), (9 : Tmp), (10 : Tmp), (11 : Tmp), (12 : Tmp), (13 : Tmp), (14 : Tmp), (15 : Tmp), (16 : Tmp), (17 : Tmp), (18 : Tmp), (19 : Tmp), (20 : Tmp), (21 : Tmp), (22 : Tmp), (23 : Tmp), (24 : Tmp), (25 : Tmp), (26 : Tmp), (3 : Tmp), (4 : Tmp), (5 : Tmp)] by decide)
  refine act_name fun A0 hA0 => ?_
  have E0 : ∀ (B : Nat → Nat) (L : List Bool), (fill (VS B) L A0).tmps[0]?.getD undef = .pointer (some ⟨b1, 0, none⟩) := fun B L => fill_old _ _ _ (by rw [← hVS]; exact (show (0 : Tmp) ∉ [(6 : Tmp), (7 : Tmp), (8 : Tmp), (9 : Tmp), (10 : Tmp), (11 : Tmp), (12 : Tmp), (13 : Tmp), (14 : Tmp), (15 : Tmp), (16 : Tmp), (17 : Tmp), (18 : Tmp), (19 : Tmp), (20 : Tmp), (21 : Tmp), (22 : Tmp), (23 : Tmp), (24 : Tmp), (25 : Tmp), (26 : Tmp), (3 : Tmp), (4 : Tmp), (5 : Tmp)] by decide)) (by rw [← hA0]; rfl)
  have E3 : ∀ (B : Nat → Nat) (L : List Bool), L[21]? = some true → (fill (VS B) L A0).tmps[3]?.getD undef = .pointer (some ⟨B 0, 0, none⟩) := fun B L h => fill_at (HN B) (j := 21) (by rw [← hVS]; rfl) h (by rw [← hA0]; simp)
  have E4 : ∀ (B : Nat → Nat) (L : List Bool), L[22]? = some true → (fill (VS B) L A0).tmps[4]?.getD undef = .pointer (some ⟨B 1, 0, none⟩) := fun B L h => fill_at (HN B) (j := 22) (by rw [← hVS]; rfl) h (by rw [← hA0]; simp)
  have E5 : ∀ (B : Nat → Nat) (L : List Bool), L[23]? = some true → (fill (VS B) L A0).tmps[5]?.getD undef = .pointer (some ⟨B 2, 0, none⟩) := fun B L h => fill_at (HN B) (j := 23) (by rw [← hVS]; rfl) h (by rw [← hA0]; simp)
  have E6 : ∀ (B : Nat → Nat) (L : List Bool), L[0]? = some true → (fill (VS B) L A0).tmps[6]?.getD undef = .pointer (some ⟨b1, 0, none⟩) := fun B L h => fill_at (HN B) (j := 0) (by rw [← hVS]; rfl) h (by rw [← hA0]; simp)
  have E7 : ∀ (B : Nat → Nat) (L : List Bool), L[1]? = some true → (fill (VS B) L A0).tmps[7]?.getD undef = .pointer (some ⟨b1, 0, none⟩) := fun B L h => fill_at (HN B) (j := 1) (by rw [← hVS]; rfl) h (by rw [← hA0]; simp)
  have E8 : ∀ (B : Nat → Nat) (L : List Bool), L[2]? = some true → (fill (VS B) L A0).tmps[8]?.getD undef = .pointer (some ⟨b1, 0, none⟩) := fun B L h => fill_at (HN B) (j := 2) (by rw [← hVS]; rfl) h (by rw [← hA0]; simp)
  have E9 : ∀ (B : Nat → Nat) (L : List Bool), L[3]? = some true → (fill (VS B) L A0).tmps[9]?.getD undef = .agg #[.int .i64 p1.f0, .int .i64 p1.f1] := fun B L h => fill_at (HN B) (j := 3) (by rw [← hVS]; rfl) h (by rw [← hA0]; simp)
  have E10 : ∀ (B : Nat → Nat) (L : List Bool), L[4]? = some true → (fill (VS B) L A0).tmps[10]?.getD undef = .pointer (some ⟨b1, 0, none⟩) := fun B L h => fill_at (HN B) (j := 4) (by rw [← hVS]; rfl) h (by rw [← hA0]; simp)
  have E11 : ∀ (B : Nat → Nat) (L : List Bool), L[5]? = some true → (fill (VS B) L A0).tmps[11]?.getD undef = .pointer (some ⟨b1, 0, none⟩) := fun B L h => fill_at (HN B) (j := 5) (by rw [← hVS]; rfl) h (by rw [← hA0]; simp)
  have E12 : ∀ (B : Nat → Nat) (L : List Bool), L[6]? = some true → (fill (VS B) L A0).tmps[12]?.getD undef = .pointer (some ⟨b1, 2, none⟩) := fun B L h => fill_at (HN B) (j := 6) (by rw [← hVS]; rfl) h (by rw [← hA0]; simp)
  have E13 : ∀ (B : Nat → Nat) (L : List Bool), L[7]? = some true → (fill (VS B) L A0).tmps[13]?.getD undef = .pointer (some ⟨b2, 0, none⟩) := fun B L h => fill_at (HN B) (j := 7) (by rw [← hVS]; rfl) h (by rw [← hA0]; simp)
  have E14 : ∀ (B : Nat → Nat) (L : List Bool), L[8]? = some true → (fill (VS B) L A0).tmps[14]?.getD undef = .pointer (some ⟨b2, 0, none⟩) := fun B L h => fill_at (HN B) (j := 8) (by rw [← hVS]; rfl) h (by rw [← hA0]; simp)
  have E15 : ∀ (B : Nat → Nat) (L : List Bool), L[9]? = some true → (fill (VS B) L A0).tmps[15]?.getD undef = .pointer (some ⟨b2, 0, none⟩) := fun B L h => fill_at (HN B) (j := 9) (by rw [← hVS]; rfl) h (by rw [← hA0]; simp)
  have E16 : ∀ (B : Nat → Nat) (L : List Bool), L[10]? = some true → (fill (VS B) L A0).tmps[16]?.getD undef = .agg #[.int .i64 p2.f0, .int .i64 p2.f1] := fun B L h => fill_at (HN B) (j := 10) (by rw [← hVS]; rfl) h (by rw [← hA0]; simp)
  have E17 : ∀ (B : Nat → Nat) (L : List Bool), L[11]? = some true → (fill (VS B) L A0).tmps[17]?.getD undef = .pointer (some ⟨b1, 0, none⟩) := fun B L h => fill_at (HN B) (j := 11) (by rw [← hVS]; rfl) h (by rw [← hA0]; simp)
  have E18 : ∀ (B : Nat → Nat) (L : List Bool), L[12]? = some true → (fill (VS B) L A0).tmps[18]?.getD undef = .pointer (some ⟨b1, 0, none⟩) := fun B L h => fill_at (HN B) (j := 12) (by rw [← hVS]; rfl) h (by rw [← hA0]; simp)
  have E19 : ∀ (B : Nat → Nat) (L : List Bool), L[13]? = some true → (fill (VS B) L A0).tmps[19]?.getD undef = .pointer (some ⟨b1, 2, none⟩) := fun B L h => fill_at (HN B) (j := 13) (by rw [← hVS]; rfl) h (by rw [← hA0]; simp)
  have E20 : ∀ (B : Nat → Nat) (L : List Bool), L[14]? = some true → (fill (VS B) L A0).tmps[20]?.getD undef = .pointer (some ⟨b2, 0, none⟩) := fun B L h => fill_at (HN B) (j := 14) (by rw [← hVS]; rfl) h (by rw [← hA0]; simp)
  have E21 : ∀ (B : Nat → Nat) (L : List Bool), L[15]? = some true → (fill (VS B) L A0).tmps[21]?.getD undef = .pointer (some ⟨b2, 0, none⟩) := fun B L h => fill_at (HN B) (j := 15) (by rw [← hVS]; rfl) h (by rw [← hA0]; simp)
  have E22 : ∀ (B : Nat → Nat) (L : List Bool), L[16]? = some true → (fill (VS B) L A0).tmps[22]?.getD undef = .pointer (some ⟨b2, 2, none⟩) := fun B L h => fill_at (HN B) (j := 16) (by rw [← hVS]; rfl) h (by rw [← hA0]; simp)
  have E23 : ∀ (B : Nat → Nat) (L : List Bool), L[17]? = some true → (fill (VS B) L A0).tmps[23]?.getD undef = .pointer (some ⟨b3, 0, none⟩) := fun B L h => fill_at (HN B) (j := 17) (by rw [← hVS]; rfl) h (by rw [← hA0]; simp)
  have E24 : ∀ (B : Nat → Nat) (L : List Bool), L[18]? = some true → (fill (VS B) L A0).tmps[24]?.getD undef = .pointer (some ⟨b3, 0, none⟩) := fun B L h => fill_at (HN B) (j := 18) (by rw [← hVS]; rfl) h (by rw [← hA0]; simp)
  have E25 : ∀ (B : Nat → Nat) (L : List Bool), L[19]? = some true → (fill (VS B) L A0).tmps[25]?.getD undef = .pointer (some ⟨b3, 0, none⟩) := fun B L h => fill_at (HN B) (j := 19) (by rw [← hVS]; rfl) h (by rw [← hA0]; simp)
  have E26 : ∀ (B : Nat → Nat) (L : List Bool), L[20]? = some true → (fill (VS B) L A0).tmps[26]?.getD undef = .agg #[.int .i64 p3.f0, .int .i64 p3.f1] := fun B L h => fill_at (HN B) (j := 20) (by rw [← hVS]; rfl) h (by rw [← hA0]; simp)
  have hSa : ∀ w' : World, w.heap.size ≤ w'.heap.size → (fun w' => Below w.heap.size w w') w' → ∀ o, (fun w' => Below w.heap.size w w') (w'.alloc o) := fun w' hz h o => h.alloc hz o
  have hSs : ∀ (w' : World) (p : Addr) (v : Value), w.heap.size ≤ p.block → (fun w' => Below w.heap.size w w') w' → (fun w' => Below w.heap.size w w') (w'.setCell p v) := fun w' p v hp h => h.setCell hp v
  refine drawn_any (by kernel_rfl) (early_spec (by kernel_rfl)) (show List.Nodup [(6 : Tmp), (7 : Tmp), (8 : Tmp), (9 : Tmp), (10 : Tmp), (11 : Tmp), (12 : Tmp), (13 : Tmp), (14 : Tmp), (15 : Tmp), (16 : Tmp), (17 : Tmp), (18 : Tmp), (19 : Tmp), (20 : Tmp), (21 : Tmp), (22 : Tmp), (23 : Tmp), (24 : Tmp), (25 : Tmp), (26 : Tmp), (3 : Tmp), (4 : Tmp), (5 : Tmp)] by decide) (fun L vs w' => ∃ B : Nat → Nat, vs = VS B ∧ Boxes (w.heap.size) (fun w' => Below w.heap.size w w') 3 (fun t => 21 + t) (fun t => 24 + t) (fun t => match t with | 0 => (p1.f0, p1.f1) | 1 => (p2.f0, p2.f1) | _ => (p3.f0, p3.f1)) L B w') (fun L vs w' h => by obtain ⟨B, rfl, _⟩ := h; rw [← hVS]; rfl) (VS (fun _ => 0)) ⟨fun _ => 0, rfl, Boxes.start ((Below.refl _ _).drew) (by simp) _⟩ ?_ ?_
  · intro i o vs L w' ho hl hli hpre hcl hV K hK
    obtain ⟨B, rfl, hT⟩ := hV
    have hS := hT.s
    have hii : i = 0 ∨ i = 1 ∨ i = 2 ∨ i = 3 ∨ i = 4 ∨ i = 5 ∨ i = 6 ∨ i = 7 ∨ i = 8 ∨ i = 9 ∨ i = 10 ∨ i = 11 ∨ i = 12 ∨ i = 13 ∨ i = 14 ∨ i = 15 ∨ i = 16 ∨ i = 17 ∨ i = 18 ∨ i = 19 ∨ i = 20 ∨ i = 21 ∨ i = 22 ∨ i = 23 ∨ i = 24 ∨ i = 25 ∨ i = 26 := by have hq := (Array.getElem?_eq_some_iff.1 ho).1; simp at hq; omega
    rcases hii with rfl | rfl | rfl | rfl | rfl | rfl | rfl | rfl | rfl | rfl | rfl | rfl | rfl | rfl | rfl | rfl | rfl | rfl | rfl | rfl | rfl | rfl | rfl | rfl | rfl | rfl | rfl
    · obtain rfl := Option.some.inj ho
      have e0 := E0 B L
      refine st_val HF rfl (by simp) rfl (v := .pointer (some ⟨b1, 0, none⟩)) (w' := w') ?_ (hK _ w' ⟨B, by rw [← hVS]; rfl, hT.keep (fun t ht => by omega) (fun t ht => by omega)⟩)
      generalize fill (VS B) L A0 = A at e0 ⊢
      simp [execOp, go_sem, i64_w, e0]
    · obtain rfl := Option.some.inj ho
      have e6 := E6 B L (hpre ⟨0, .data⟩ (by simp) rfl)
      refine st_val HF rfl (by simp) rfl (v := .pointer (some ⟨b1, 0, none⟩)) (w' := w') ?_ (hK _ w' ⟨B, by rw [← hVS]; rfl, hT.keep (fun t ht => by omega) (fun t ht => by omega)⟩)
      generalize fill (VS B) L A0 = A at e6 ⊢
      simp [execOp, go_sem, i64_w, e6]
    · obtain rfl := Option.some.inj ho
      have e7 := E7 B L (hpre ⟨1, .data⟩ (by simp) rfl)
      refine st_val HF rfl (by simp) rfl (v := .pointer (some ⟨b1, 0, none⟩)) (w' := w') ?_ (hK _ w' ⟨B, by rw [← hVS]; rfl, hT.keep (fun t ht => by omega) (fun t ht => by omega)⟩)
      generalize fill (VS B) L A0 = A at e7 ⊢
      simp [execOp, go_sem, i64_w, e7]
    · obtain rfl := Option.some.inj ho
      have e8 := E8 B L (hpre ⟨2, .data⟩ (by simp) rfl)
      have c1 := (hS.cell (p := ⟨b1, 0, none⟩) s1).trans x1
      have c2 := (hS.cell (p := ⟨b1, 1, none⟩) s1).trans y1
      refine st_val HF rfl (by simp) rfl (v := .agg #[.int .i64 p1.f0, .int .i64 p1.f1]) (w' := w') ?_ (hK _ w' ⟨B, by rw [← hVS]; rfl, hT.keep (fun t ht => by omega) (fun t ht => by omega)⟩)
      generalize fill (VS B) L A0 = A at e8 ⊢
      simp [execOp, go_sem, i64_w, e8, c1, c2]
    · obtain rfl := Option.some.inj ho
      have e0 := E0 B L
      refine st_val HF rfl (by simp) rfl (v := .pointer (some ⟨b1, 0, none⟩)) (w' := w') ?_ (hK _ w' ⟨B, by rw [← hVS]; rfl, hT.keep (fun t ht => by omega) (fun t ht => by omega)⟩)
      generalize fill (VS B) L A0 = A at e0 ⊢
      simp [execOp, go_sem, i64_w, e0]
    · obtain rfl := Option.some.inj ho
      have e10 := E10 B L (hpre ⟨4, .data⟩ (by simp) rfl)
      refine st_val HF rfl (by simp) rfl (v := .pointer (some ⟨b1, 0, none⟩)) (w' := w') ?_ (hK _ w' ⟨B, by rw [← hVS]; rfl, hT.keep (fun t ht => by omega) (fun t ht => by omega)⟩)
      generalize fill (VS B) L A0 = A at e10 ⊢
      simp [execOp, go_sem, i64_w, e10]
    · obtain rfl := Option.some.inj ho
      have e11 := E11 B L (hpre ⟨5, .data⟩ (by simp) rfl)
      refine st_val HF rfl (by simp) rfl (v := .pointer (some ⟨b1, 2, none⟩)) (w' := w') ?_ (hK _ w' ⟨B, by rw [← hVS]; rfl, hT.keep (fun t ht => by omega) (fun t ht => by omega)⟩)
      generalize fill (VS B) L A0 = A at e11 ⊢
      simp [execOp, go_sem, i64_w, e11]
    · obtain rfl := Option.some.inj ho
      have e12 := E12 B L (hpre ⟨6, .data⟩ (by simp) rfl)
      have c1 := (hS.cell (p := ⟨b1, 2, none⟩) s1).trans n1
      refine st_val HF rfl (by simp) rfl (v := .pointer (some ⟨b2, 0, none⟩)) (w' := w') ?_ (hK _ w' ⟨B, by rw [← hVS]; rfl, hT.keep (fun t ht => by omega) (fun t ht => by omega)⟩)
      generalize fill (VS B) L A0 = A at e12 ⊢
      simp [execOp, go_sem, i64_w, e12, c1]
    · obtain rfl := Option.some.inj ho
      have e13 := E13 B L (hpre ⟨7, .data⟩ (by simp) rfl)
      refine st_val HF rfl (by simp) rfl (v := .pointer (some ⟨b2, 0, none⟩)) (w' := w') ?_ (hK _ w' ⟨B, by rw [← hVS]; rfl, hT.keep (fun t ht => by omega) (fun t ht => by omega)⟩)
      generalize fill (VS B) L A0 = A at e13 ⊢
      simp [execOp, go_sem, i64_w, e13]
    · obtain rfl := Option.some.inj ho
      have e14 := E14 B L (hpre ⟨8, .data⟩ (by simp) rfl)
      refine st_val HF rfl (by simp) rfl (v := .pointer (some ⟨b2, 0, none⟩)) (w' := w') ?_ (hK _ w' ⟨B, by rw [← hVS]; rfl, hT.keep (fun t ht => by omega) (fun t ht => by omega)⟩)
      generalize fill (VS B) L A0 = A at e14 ⊢
      simp [execOp, go_sem, i64_w, e14]
    · obtain rfl := Option.some.inj ho
      have e15 := E15 B L (hpre ⟨9, .data⟩ (by simp) rfl)
      have c1 := (hS.cell (p := ⟨b2, 0, none⟩) s2).trans x2
      have c2 := (hS.cell (p := ⟨b2, 1, none⟩) s2).trans y2
      refine st_val HF rfl (by simp) rfl (v := .agg #[.int .i64 p2.f0, .int .i64 p2.f1]) (w' := w') ?_ (hK _ w' ⟨B, by rw [← hVS]; rfl, hT.keep (fun t ht => by omega) (fun t ht => by omega)⟩)
      generalize fill (VS B) L A0 = A at e15 ⊢
      simp [execOp, go_sem, i64_w, e15, c1, c2]
    · obtain rfl := Option.some.inj ho
      have e0 := E0 B L
      refine st_val HF rfl (by simp) rfl (v := .pointer (some ⟨b1, 0, none⟩)) (w' := w') ?_ (hK _ w' ⟨B, by rw [← hVS]; rfl, hT.keep (fun t ht => by omega) (fun t ht => by omega)⟩)
      generalize fill (VS B) L A0 = A at e0 ⊢
      simp [execOp, go_sem, i64_w, e0]
    · obtain rfl := Option.some.inj ho
      have e17 := E17 B L (hpre ⟨11, .data⟩ (by simp) rfl)
      refine st_val HF rfl (by simp) rfl (v := .pointer (some ⟨b1, 0, none⟩)) (w' := w') ?_ (hK _ w' ⟨B, by rw [← hVS]; rfl, hT.keep (fun t ht => by omega) (fun t ht => by omega)⟩)
      generalize fill (VS B) L A0 = A at e17 ⊢
      simp [execOp, go_sem, i64_w, e17]
    · obtain rfl := Option.some.inj ho
      have e18 := E18 B L (hpre ⟨12, .data⟩ (by simp) rfl)
      refine st_val HF rfl (by simp) rfl (v := .pointer (some ⟨b1, 2, none⟩)) (w' := w') ?_ (hK _ w' ⟨B, by rw [← hVS]; rfl, hT.keep (fun t ht => by omega) (fun t ht => by omega)⟩)
      generalize fill (VS B) L A0 = A at e18 ⊢
      simp [execOp, go_sem, i64_w, e18]
    · obtain rfl := Option.some.inj ho
      have e19 := E19 B L (hpre ⟨13, .data⟩ (by simp) rfl)
      have c1 := (hS.cell (p := ⟨b1, 2, none⟩) s1).trans n1
      refine st_val HF rfl (by simp) rfl (v := .pointer (some ⟨b2, 0, none⟩)) (w' := w') ?_ (hK _ w' ⟨B, by rw [← hVS]; rfl, hT.keep (fun t ht => by omega) (fun t ht => by omega)⟩)
      generalize fill (VS B) L A0 = A at e19 ⊢
      simp [execOp, go_sem, i64_w, e19, c1]
    · obtain rfl := Option.some.inj ho
      have e20 := E20 B L (hpre ⟨14, .data⟩ (by simp) rfl)
      refine st_val HF rfl (by simp) rfl (v := .pointer (some ⟨b2, 0, none⟩)) (w' := w') ?_ (hK _ w' ⟨B, by rw [← hVS]; rfl, hT.keep (fun t ht => by omega) (fun t ht => by omega)⟩)
      generalize fill (VS B) L A0 = A at e20 ⊢
      simp [execOp, go_sem, i64_w, e20]
    · obtain rfl := Option.some.inj ho
      have e21 := E21 B L (hpre ⟨15, .data⟩ (by simp) rfl)
      refine st_val HF rfl (by simp) rfl (v := .pointer (some ⟨b2, 2, none⟩)) (w' := w') ?_ (hK _ w' ⟨B, by rw [← hVS]; rfl, hT.keep (fun t ht => by omega) (fun t ht => by omega)⟩)
      generalize fill (VS B) L A0 = A at e21 ⊢
      simp [execOp, go_sem, i64_w, e21]
    · obtain rfl := Option.some.inj ho
      have e22 := E22 B L (hpre ⟨16, .data⟩ (by simp) rfl)
      have c1 := (hS.cell (p := ⟨b2, 2, none⟩) s2).trans n2
      refine st_val HF rfl (by simp) rfl (v := .pointer (some ⟨b3, 0, none⟩)) (w' := w') ?_ (hK _ w' ⟨B, by rw [← hVS]; rfl, hT.keep (fun t ht => by omega) (fun t ht => by omega)⟩)
      generalize fill (VS B) L A0 = A at e22 ⊢
      simp [execOp, go_sem, i64_w, e22, c1]
    · obtain rfl := Option.some.inj ho
      have e23 := E23 B L (hpre ⟨17, .data⟩ (by simp) rfl)
      refine st_val HF rfl (by simp) rfl (v := .pointer (some ⟨b3, 0, none⟩)) (w' := w') ?_ (hK _ w' ⟨B, by rw [← hVS]; rfl, hT.keep (fun t ht => by omega) (fun t ht => by omega)⟩)
      generalize fill (VS B) L A0 = A at e23 ⊢
      simp [execOp, go_sem, i64_w, e23]
    · obtain rfl := Option.some.inj ho
      have e24 := E24 B L (hpre ⟨18, .data⟩ (by simp) rfl)
      refine st_val HF rfl (by simp) rfl (v := .pointer (some ⟨b3, 0, none⟩)) (w' := w') ?_ (hK _ w' ⟨B, by rw [← hVS]; rfl, hT.keep (fun t ht => by omega) (fun t ht => by omega)⟩)
      generalize fill (VS B) L A0 = A at e24 ⊢
      simp [execOp, go_sem, i64_w, e24]
    · obtain rfl := Option.some.inj ho
      have e25 := E25 B L (hpre ⟨19, .data⟩ (by simp) rfl)
      have c1 := (hS.cell (p := ⟨b3, 0, none⟩) s3).trans x3
      have c2 := (hS.cell (p := ⟨b3, 1, none⟩) s3).trans y3
      refine st_val HF rfl (by simp) rfl (v := .agg #[.int .i64 p3.f0, .int .i64 p3.f1]) (w' := w') ?_ (hK _ w' ⟨B, by rw [← hVS]; rfl, hT.keep (fun t ht => by omega) (fun t ht => by omega)⟩)
      generalize fill (VS B) L A0 = A at e25 ⊢
      simp [execOp, go_sem, i64_w, e25, c1, c2]
    · obtain rfl := Option.some.inj ho
      refine st_val HF rfl (by simp) rfl (v := .pointer (some ⟨w'.heap.size, 0, none⟩)) (w' := w'.alloc (.cells #[.int .i64 0, .int .i64 0] 37)) ?_ (hK _ _ ⟨fun t => if t = 0 then w'.heap.size else B t, by rw [← hVS]; rfl, hT.alloc (r := 0) (by decide) (fun t ht hne => by omega) (fun t ht => by omega) (fun hs => ?_) _ (hSa _ hT.sz hS _)⟩)
      · generalize fill (VS B) L A0 = A
        simp [execOp, go_sem]
      · have hq := hcl 24 _ rfl hs ⟨21, .data⟩ (by simp) rfl
        rw [hli] at hq; exact absurd hq (by simp)
    · obtain rfl := Option.some.inj ho
      refine st_val HF rfl (by simp) rfl (v := .pointer (some ⟨w'.heap.size, 0, none⟩)) (w' := w'.alloc (.cells #[.int .i64 0, .int .i64 0] 37)) ?_ (hK _ _ ⟨fun t => if t = 1 then w'.heap.size else B t, by rw [← hVS]; rfl, hT.alloc (r := 1) (by decide) (fun t ht hne => by omega) (fun t ht => by omega) (fun hs => ?_) _ (hSa _ hT.sz hS _)⟩)
      · generalize fill (VS B) L A0 = A
        simp [execOp, go_sem]
      · have hq := hcl 25 _ rfl hs ⟨22, .data⟩ (by simp) rfl
        rw [hli] at hq; exact absurd hq (by simp)
    · obtain rfl := Option.some.inj ho
      refine st_val HF rfl (by simp) rfl (v := .pointer (some ⟨w'.heap.size, 0, none⟩)) (w' := w'.alloc (.cells #[.int .i64 0, .int .i64 0] 37)) ?_ (hK _ _ ⟨fun t => if t = 2 then w'.heap.size else B t, by rw [← hVS]; rfl, hT.alloc (r := 2) (by decide) (fun t ht hne => by omega) (fun t ht => by omega) (fun hs => ?_) _ (hSa _ hT.sz hS _)⟩)
      · generalize fill (VS B) L A0 = A
        simp [execOp, go_sem]
      · have hq := hcl 26 _ rfl hs ⟨23, .data⟩ (by simp) rfl
        rw [hli] at hq; exact absurd hq (by simp)
    · obtain rfl := Option.some.inj ho
      have e3 := E3 B L (hpre ⟨21, .data⟩ (by simp) rfl)
      have e9 := E9 B L (hpre ⟨3, .data⟩ (by simp) rfl)
      have hal := hpre ⟨21, .data⟩ (by simp) rfl
      obtain ⟨_, _, f0, f1, ⟨u0, k0⟩, ⟨u1, k1⟩, _⟩ := hT.box 0 (by decide) hal
      refine st_skip HF rfl (by simp) rfl (w' := (w'.setCell ⟨B 0, 0, none⟩ (.int .i64 p1.f0)).setCell ⟨B 0, 1, none⟩ (.int .i64 p1.f1)) ?_ (hK _ _ ⟨B, by rw [← hVS]; rfl, hT.store (r := 0) (by decide) (fun t ht hne => by omega) (fun t ht => by omega) hal (fun w' p v h1 h2 => hSs w' p v h1 h2)⟩)
      generalize fill (VS B) L A0 = A at e3 e9 ⊢
      simp [execOp, go_sem, k0, k1, f0, f1, e3, e9]
    · obtain rfl := Option.some.inj ho
      have e4 := E4 B L (hpre ⟨22, .data⟩ (by simp) rfl)
      have e16 := E16 B L (hpre ⟨10, .data⟩ (by simp) rfl)
      have hal := hpre ⟨22, .data⟩ (by simp) rfl
      obtain ⟨_, _, f0, f1, ⟨u0, k0⟩, ⟨u1, k1⟩, _⟩ := hT.box 1 (by decide) hal
      refine st_skip HF rfl (by simp) rfl (w' := (w'.setCell ⟨B 1, 0, none⟩ (.int .i64 p2.f0)).setCell ⟨B 1, 1, none⟩ (.int .i64 p2.f1)) ?_ (hK _ _ ⟨B, by rw [← hVS]; rfl, hT.store (r := 1) (by decide) (fun t ht hne => by omega) (fun t ht => by omega) hal (fun w' p v h1 h2 => hSs w' p v h1 h2)⟩)
      generalize fill (VS B) L A0 = A at e4 e16 ⊢
      simp [execOp, go_sem, k0, k1, f0, f1, e4, e16]
    · obtain rfl := Option.some.inj ho
      have e5 := E5 B L (hpre ⟨23, .data⟩ (by simp) rfl)
      have e26 := E26 B L (hpre ⟨20, .data⟩ (by simp) rfl)
      have hal := hpre ⟨23, .data⟩ (by simp) rfl
      obtain ⟨_, _, f0, f1, ⟨u0, k0⟩, ⟨u1, k1⟩, _⟩ := hT.box 2 (by decide) hal
      refine st_skip HF rfl (by simp) rfl (w' := (w'.setCell ⟨B 2, 0, none⟩ (.int .i64 p3.f0)).setCell ⟨B 2, 1, none⟩ (.int .i64 p3.f1)) ?_ (hK _ _ ⟨B, by rw [← hVS]; rfl, hT.store (r := 2) (by decide) (fun t ht hne => by omega) (fun t ht => by omega) hal (fun w' p v h1 h2 => hSs w' p v h1 h2)⟩)
      generalize fill (VS B) L A0 = A at e5 e26 ⊢
      simp [execOp, go_sem, k0, k1, f0, f1, e5, e26]
  · intro vs w' hV
    obtain ⟨B, rfl, hT⟩ := hV
    have hS := hT.s
    obtain ⟨bl0, bt0, bf0, bg0, _, _, bc0⟩ := hT.box 0 (by decide) rfl
    obtain ⟨bx0, by0⟩ := bc0 rfl
    obtain ⟨bl1, bt1, bf1, bg1, _, _, bc1⟩ := hT.box 1 (by decide) rfl
    obtain ⟨bx1, by1⟩ := bc1 rfl
    obtain ⟨bl2, bt2, bf2, bg2, _, _, bc2⟩ := hT.box 2 (by decide) rfl
    obtain ⟨bx2, by2⟩ := bc2 rfl
    rw [← hVS, ← hA0]
    simp only [List.size_toArray, List.length_cons, List.length_nil, Nat.reduceAdd, List.replicate, fill, if_true, Act.put, List.setIfInBounds_toArray, List.set_cons_succ, List.set_cons_zero]
    clear bc0 bc1 bc2 hT
    have HS := Aside0.mk hS
    clear hS
    cases hq : onPt p1 p2 p3
    · have hq' := Aside0.mk ((onPt_f p1 p2 p3).trans (by rw [hq]))
      have hr' := Aside0.mk (onPt_f p2 p3 p1)
      have HQ := Aside0.mk hq
      clear hq
      gi_wp2_with (first | (refine ⟨trivial, rfl, ?_⟩; gi_at_call 80; have _t := hq'; refine CallsIn.mono (callsIn_wide.2 (impl_PointOn.calls 1 p1.f0 p1.f1 p2.f0 p2.f1 p3.f0 p3.f1 false _ hq'.out)) ?_; rintro e w2 ⟨rfl, hb2⟩; obtain ⟨hc2, hf2⟩ := bcell hb2; have HS2 := Aside0.mk (HS.out.trans (hb2.mono (by have := HS.out.size; omega))); clear hb2 hq' _t) | (refine ⟨trivial, rfl, ?_⟩; gi_at_call 80; refine CallsIn.mono (callsIn_wide.2 (impl_PointOn.calls 1 p2.f0 p2.f1 p3.f0 p3.f1 p1.f0 p1.f1 (onPt p2 p3 p1) _ hr'.out)) ?_; rintro e w3 ⟨rfl, hb3⟩; have HS3 := Aside0.mk (HS2.out.trans (hb3.mono (by have := HS2.out.size; omega))); clear hb3))
      go_ret
      exact ⟨by rw [HQ.out]; rfl, HS3.out⟩
    · have hq' := Aside0.mk ((onPt_f p1 p2 p3).trans (by rw [hq]))
      have HQ := Aside0.mk hq
      have hfn : Fence.wide.fn 80 := trivial
      clear hq
      gi_wp2_with ((first | refine ⟨trivial, rfl, ?_⟩ | refine ⟨rfl, ?_⟩); gi_at_call 80; refine CallsIn.mono (callsIn_wide.2 (impl_PointOn.calls 1 p1.f0 p1.f1 p2.f0 p2.f1 p3.f0 p3.f1 true _ hq'.out)) ?_; rintro e w2 ⟨rfl, hb2⟩; have HS2 := Aside0.mk (HS.out.trans (hb2.mono (by have := HS.out.size; omega))); clear hb2)
      go_ret
      exact ⟨by rw [HQ.out]; rfl, HS2.out⟩

end Go.Proofs.Ytiieoannejlgiaa.Ring
