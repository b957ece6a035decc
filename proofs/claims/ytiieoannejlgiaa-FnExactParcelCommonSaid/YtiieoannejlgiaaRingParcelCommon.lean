/- impl.ParcelCommon over two lists of corners. -/
import Derived.Test.YtiieoannejlgiaaDrawn
import Derived.Test.YtiieoannejlgiaaRingParcelValid
import Derived.Test.YtiieoannejlgiaaRingHasSide
namespace Go.Proofs.Ytiieoannejlgiaa.Ring
open Go.RowKit Go.Shelf Go.Proofs.Ytiieoannejlgiaa.Q Go.Proofs.Ytiieoannejlgiaa.Drawn Go.Proofs.YtiieoannejlgiaaW.PrintWords Go.Proofs.YtiieoannejlgiaaW.PrintLast Go.Proofs.YtiieoannejlgiaaW.PrintMore
set_option linter.unusedVariables false
set_option linter.unusedSimpArgs false
attribute [local go_sem] Oper.semAt_some

def cntS (l m : List Pt) : Nat → Int
  | 0 => 0
  | j + 1 => if hasS m (nxt l j) (at_ l j) then wrap64 (cntS l m j + 1) else cntS l m j
set_option maxRecDepth 100000 in
set_option maxHeartbeats 4000000 in
theorem common_nn (A0 : Option Addr) (c0 : Nat) (l : List Pt) (A1 : Option Addr) (c1 : Nat) (m : List Pt) (w : World) (hr0 : Kd.C k37 w A0 l.length l) (hc0 : l.length ≤ c0) (hr1 : Kd.C k37 w A1 m.length m) (hc1 : m.length ≤ c1) (h0 : okP l = false) (h1 : okP m = false) :
    Calls Try.prog 34 #[.slice A0 l.length c0, .slice A1 m.length c1] w fun e w' => e = .returned (.int .i64 (-1)) ∧ Below w.heap.size w w' := by
  have HR0 := Aside0.mk hr0
  have HC0 := Aside0.mk hc0
  have HR1 := Aside0.mk hr1
  have HC1 := Aside0.mk hc1
  have HX0 := Aside0.mk h0
  have HX1 := Aside0.mk h1
  clear hr0 hc0 hr1 hc1 h0 h1
  refine (callsIn_wide (n := 0)).1 (callsIn_of_wp Try.func34 rfl trivial ?_ rfl)
  simp only [Try.ntmps34, List.size_toArray, List.length_cons, List.length_nil, Nat.reduceAdd, Nat.reduceSub, Array.replicate_succ, Array.replicate_zero, List.push_toArray, List.append_toArray, List.nil_append, List.cons_append]
  gi_wp2_with (first | ((first | refine ⟨trivial, rfl, ?_⟩ | refine ⟨rfl, ?_⟩ | skip); gi_at_call 55; (with_reducible refine (callsIn_wide.2 (parcel_no A0 c0 l w HR0.out HC0.out HX0.out)).mono ?_); rintro e w1 ⟨rfl, hb⟩; have HB := Aside0.mk (show Below w.heap.size w w1 from hb); clear hb) | ((first | refine ⟨trivial, rfl, ?_⟩ | refine ⟨rfl, ?_⟩ | skip); gi_at_call 55; (with_reducible refine (callsIn_wide.2 (parcel_no A1 c1 m (w1.alloc (.cells #[.pointer none, .int .i64 0] 61)) (Kd.C_below HR1.out (HB.out.alloc HB.out.size _)) HC1.out HX1.out)).mono ?_); rintro e w2 ⟨rfl, hb⟩; have HB2 := Aside0.mk (show Below (w1.heap.size + 1) (w1.alloc (.cells #[.pointer none, .int .i64 0] 61)) w2 from hb.mono (by simp)); clear hb))
  go_ret
  exact ⟨rfl, (HB.out.alloc HB.out.size _).trans (HB2.out.mono (by have := HB.out.size; omega)) |>.alloc (by have := HB.out.size; have := HB2.out.size; simp at this; omega) _⟩
set_option maxRecDepth 100000 in
set_option maxHeartbeats 4000000 in
theorem common_ny (A0 : Option Addr) (c0 : Nat) (l : List Pt) (A1 : Option Addr) (c1 : Nat) (m : List Pt) (w : World) (hr0 : Kd.C k37 w A0 l.length l) (hc0 : l.length ≤ c0) (hr1 : Kd.C k37 w A1 m.length m) (hc1 : m.length ≤ c1) (h0 : okP l = false) (h1 : okP m = true) :
    Calls Try.prog 34 #[.slice A0 l.length c0, .slice A1 m.length c1] w fun e w' => e = .returned (.int .i64 (-1)) ∧ Below w.heap.size w w' := by
  have HR0 := Aside0.mk hr0
  have HC0 := Aside0.mk hc0
  have HR1 := Aside0.mk hr1
  have HC1 := Aside0.mk hc1
  have HX0 := Aside0.mk h0
  have HX1 := Aside0.mk h1
  clear hr0 hc0 hr1 hc1 h0 h1
  refine (callsIn_wide (n := 0)).1 (callsIn_of_wp Try.func34 rfl trivial ?_ rfl)
  simp only [Try.ntmps34, List.size_toArray, List.length_cons, List.length_nil, Nat.reduceAdd, Nat.reduceSub, Array.replicate_succ, Array.replicate_zero, List.push_toArray, List.append_toArray, List.nil_append, List.cons_append]
  gi_wp2_with (first | ((first | refine ⟨trivial, rfl, ?_⟩ | refine ⟨rfl, ?_⟩ | skip); gi_at_call 55; (with_reducible refine (callsIn_wide.2 (parcel_no A0 c0 l w HR0.out HC0.out HX0.out)).mono ?_); rintro e w1 ⟨rfl, hb⟩; have HB := Aside0.mk (show Below w.heap.size w w1 from hb); clear hb) | ((first | refine ⟨trivial, rfl, ?_⟩ | refine ⟨rfl, ?_⟩ | skip); gi_at_call 55; (with_reducible refine (callsIn_wide.2 (parcel_yes A1 c1 m (w1.alloc (.cells #[.pointer none, .int .i64 0] 61)) (Kd.C_below HR1.out (HB.out.alloc HB.out.size _)) HC1.out HX1.out)).mono ?_); rintro e w2 ⟨bs2, rfl, hR, hlo0, hb⟩; have HRB := Aside0.mk hR; clear hR hlo0; have HB2 := Aside0.mk (show Below (w1.heap.size + 1) (w1.alloc (.cells #[.pointer none, .int .i64 0] 61)) w2 from hb.mono (by simp)); clear hb))
  go_ret
  exact ⟨rfl, (HB.out.alloc HB.out.size _).trans (HB2.out.mono (by have := HB.out.size; omega)) |>.alloc (by have := HB.out.size; have := HB2.out.size; simp at this; omega) _⟩
set_option maxRecDepth 100000 in
set_option maxHeartbeats 4000000 in
theorem common_yn (A0 : Option Addr) (c0 : Nat) (l : List Pt) (A1 : Option Addr) (c1 : Nat) (m : List Pt) (w : World) (hr0 : Kd.C k37 w A0 l.length l) (hc0 : l.length ≤ c0) (hr1 : Kd.C k37 w A1 m.length m) (hc1 : m.length ≤ c1) (h0 : okP l = true) (h1 : okP m = false) :
    Calls Try.prog 34 #[.slice A0 l.length c0, .slice A1 m.length c1] w fun e w' => e = .returned (.int .i64 (-1)) ∧ Below w.heap.size w w' := by
  have HR0 := Aside0.mk hr0
  have HC0 := Aside0.mk hc0
  have HR1 := Aside0.mk hr1
  have HC1 := Aside0.mk hc1
  have HX0 := Aside0.mk h0
  have HX1 := Aside0.mk h1
  clear hr0 hc0 hr1 hc1 h0 h1
  refine (callsIn_wide (n := 0)).1 (callsIn_of_wp Try.func34 rfl trivial ?_ rfl)
  simp only [Try.ntmps34, List.size_toArray, List.length_cons, List.length_nil, Nat.reduceAdd, Nat.reduceSub, Array.replicate_succ, Array.replicate_zero, List.push_toArray, List.append_toArray, List.nil_append, List.cons_append]
  gi_wp2_with (first | ((first | refine ⟨trivial, rfl, ?_⟩ | refine ⟨rfl, ?_⟩ | skip); gi_at_call 55; (with_reducible refine (callsIn_wide.2 (parcel_yes A0 c0 l w HR0.out HC0.out HX0.out)).mono ?_); rintro e w1 ⟨bs, rfl, hR, hlo0, hb⟩; have HR := Aside0.mk hR; clear hR hlo0; have HB := Aside0.mk (show Below w.heap.size w w1 from hb); clear hb) | ((first | refine ⟨trivial, rfl, ?_⟩ | refine ⟨rfl, ?_⟩ | skip); gi_at_call 55; (with_reducible refine (callsIn_wide.2 (parcel_no A1 c1 m (w1.alloc (.cells #[.pointer (some ⟨bs 0, 0, none⟩), .int .i64 l.length] 61)) (Kd.C_below HR1.out (HB.out.alloc HB.out.size _)) HC1.out HX1.out)).mono ?_); rintro e w2 ⟨rfl, hb⟩; have HB2 := Aside0.mk (show Below (w1.heap.size + 1) (w1.alloc (.cells #[.pointer (some ⟨bs 0, 0, none⟩), .int .i64 l.length] 61)) w2 from hb.mono (by simp)); clear hb))
  go_ret
  exact ⟨rfl, (HB.out.alloc HB.out.size _).trans (HB2.out.mono (by have := HB.out.size; omega)) |>.alloc (by have := HB.out.size; have := HB2.out.size; simp at this; omega) _⟩
set_option maxRecDepth 100000 in
set_option maxHeartbeats 4000000 in
theorem common_yy (A0 : Option Addr) (c0 : Nat) (l : List Pt) (A1 : Option Addr) (c1 : Nat) (m : List Pt) (w : World) (hr0 : Kd.C k37 w A0 l.length l) (hc0 : l.length ≤ c0) (hr1 : Kd.C k37 w A1 m.length m) (hc1 : m.length ≤ c1) (h0 : okP l = true) (h1 : okP m = true) :
    Calls Try.prog 34 #[.slice A0 l.length c0, .slice A1 m.length c1] w fun e w' => e = .returned (.int .i64 (cntS l m l.length)) ∧ Below w.heap.size w w' := by
  have HR0 := Aside0.mk hr0
  have HC0 := Aside0.mk hc0
  have HR1 := Aside0.mk hr1
  have HC1 := Aside0.mk hc1
  have HX0 := Aside0.mk h0
  have HX1 := Aside0.mk h1
  clear hr0 hc0 hr1 hc1 h0 h1
  refine (callsIn_wide (n := 0)).1 (callsIn_of_wp_marks Try.func34 rfl trivial ?_ rfl)
  simp only [Try.ntmps34, List.size_toArray, List.length_cons, List.length_nil, Nat.reduceAdd, Nat.reduceSub, Array.replicate_succ, Array.replicate_zero, List.push_toArray, List.append_toArray, List.nil_append, List.cons_append]
  gi_wp2_with (first | ((first | refine ⟨trivial, rfl, ?_⟩ | refine ⟨rfl, ?_⟩ | skip); gi_at_call 55; (with_reducible refine (callsIn_wide.2 (parcel_yes A0 c0 l w HR0.out HC0.out HX0.out)).mono ?_); rintro e w1 ⟨bs, rfl, hR, hlo0, hb⟩; have HR := Aside0.mk hR; clear hR hlo0; have HB := Aside0.mk (show Below w.heap.size w w1 from hb); clear hb) | (((first | refine ⟨trivial, rfl, ?_⟩ | refine ⟨rfl, ?_⟩ | skip); gi_at_call 55; (with_reducible refine (callsIn_wide.2 (parcel_yes A1 c1 m (w1.alloc (.cells #[.pointer (some ⟨bs 0, 0, none⟩), .int .i64 l.length] 61)) (Kd.C_below HR1.out (HB.out.alloc HB.out.size _)) HC1.out HX1.out)).mono ?_); rintro e w2 ⟨bs2, rfl, hR, hlo0, hb⟩; have HRB := Aside0.mk hR; clear hR hlo0; have HB2 := Aside0.mk (show Below (w1.heap.size + 1) (w1.alloc (.cells #[.pointer (some ⟨bs 0, 0, none⟩), .int .i64 l.length] 61)) w2 from hb.mono (by simp)); clear hb); have hz1 : w.heap.size ≤ w1.heap.size := HB.out.size; have hz3 : w1.heap.size < w2.heap.size := (by have := HB2.out.size; simp at this; omega); have hz5 : ¬ w1.heap.size = w2.heap.size := (by omega); have hz7 : ¬ w2.heap.size = w1.heap.size := (by omega); have q0 := (at_new HB2.out 0).1; have q1 := (at_new HB2.out 1).1; simp [go_sem] at q0 q1))
  obtain ⟨W0, hW0⟩ : ∃ W0, (w2.alloc (.cells #[.pointer (some ⟨bs2 0, 0, none⟩), .int .i64 m.length] 61)).alloc (.cells #[.int .i64 0] 3) = W0 := ⟨_, rfl⟩
  have hs : W0.heap.size = w2.heap.size + 2 := by rw [← hW0]; simp
  have hc0 : W0.cell? ⟨w2.heap.size + 1, 0, none⟩ = some (.int .i64 0) := by rw [← hW0]; simp [go_sem]
  have hf0 : W0.frozen? ⟨w2.heap.size + 1, 0, none⟩ = false := by rw [← hW0]; simp [go_sem]
  have hqa : W0.cell? ⟨w2.heap.size, 0, none⟩ = some (.pointer (some ⟨bs2 0, 0, none⟩)) := by rw [← hW0]; simp [go_sem]
  have hqb : W0.cell? ⟨w2.heap.size, 1, none⟩ = some (.int .i64 m.length) := by rw [← hW0]; simp [go_sem]
  have hb2 : Below w2.heap.size w2 W0 := by rw [← hW0]; exact ((Below.refl _ w2).alloc (Nat.le_refl _) _).alloc (by simp) _
  have hb1 : Below w1.heap.size w1 W0 := (((Below.refl _ w1).alloc (Nat.le_refl _) _).trans (HB2.out.mono (by omega))).trans (hb2.mono (by omega))
  have hb0 : Below w.heap.size w W0 := HB.out.trans (hb1.mono hz1)
  have HRA0 := Aside0.mk ((HR.out.below hb1).mono (show w1.heap.size ≤ w2.heap.size + 1 by omega))
  have HRB0 := Aside0.mk ((HRB.out.below hb2).mono (show w2.heap.size ≤ w2.heap.size + 1 by omega))
  rw [hW0]
  clear hW0 q0 q1 hb1 hb2 HB2
  refine range_ring (w2.heap.size + 1) bs l HRA0.out (by omega) rfl
    (fun j W => (W.cell? ⟨w2.heap.size + 1, 0, none⟩ = some (.int .i64 (cntS l m j)) ∧ W.frozen? ⟨w2.heap.size + 1, 0, none⟩ = false) ∧ Below (w2.heap.size + 1) W0 W)
    (fun _ _ => False)
    (OwnFrom.and (Own.from (fun s A B row hs hg hr => ⟨cell_kept hs.1 hg hr, (frozen_kept hs.1 hg hr).trans hs.2⟩) _) (ownFrom_below (by omega) (by omega)))
    (fun _ _ _ _ h _ _ => h.elim) ⟨⟨hc0, hf0⟩, Below.refl _ _⟩ ?a1 ?assign ?body ?done ?stop
  case assign =>
    intro r k W K hK
    gi_wp2
    exact hK
  case done =>
    rintro D W hD ⟨⟨hc, hf⟩, hb⟩ hK
    gi_wp2
    refine ⟨by simp, .inl ⟨_, _, rfl, run_takeDeferred hK, ?_⟩⟩
    exact ⟨_, results_tmp rfl _ _ _, rfl, (hb0.trans (hb.mono (by omega))).trans (belowK_b (w := W0) (by omega) _ _ _ _ hD hK rfl rfl)⟩
  case stop =>
    rintro D c W hD h
    exact h.elim
  case body =>
    rintro r k W hk ⟨⟨hc, hf⟩, hb⟩ hbt
    have HF := wide_round Try.prog r
    have hsW := hb.size
    have hRW0 := (HRA0.out.below hb).mono (show w2.heap.size + 1 ≤ W.heap.size by omega)
    have HRB3 := (HRB0.out.below hb).mono (show w2.heap.size + 1 ≤ W.heap.size by omega)
    have hRW := hRW0
    have hkp := hRW.pos
    have hrx := Aside0.mk (fun w' (h : Below W.heap.size W w') => (hRW.below h).x k hk)
    have hry := Aside0.mk (fun w' (h : Below W.heap.size W w') => (hRW.below h).y k hk)
    have hrn := Aside0.mk (fun w' (h : Below W.heap.size W w') => (hRW.below h).next k hk)
    have hnk : (k + 1) % l.length < l.length := Nat.mod_lt _ (by omega)
    have hnx := Aside0.mk (fun w' (h : Below W.heap.size W w') => (show w'.cell? ⟨bs ((k + 1) % l.length), 0, none⟩ = some (.int .i64 (nxt l k).f0) from (hRW.below h).x _ hnk))
    have hny := Aside0.mk (fun w' (h : Below W.heap.size W w') => (show w'.cell? ⟨bs ((k + 1) % l.length), 1, none⟩ = some (.int .i64 (nxt l k).f1) from (hRW.below h).y _ hnk))
    clear hRW
    have q0 := (hb.cell (p := ⟨w2.heap.size, 0, none⟩) (by dsimp only; omega)).trans hqa
    have q1 := (hb.cell (p := ⟨w2.heap.size, 1, none⟩) (by dsimp only; omega)).trans hqb
    gi_wp2
    obtain ⟨VS, hVS⟩ : ∃ VS : List (Option Tmp × Value), [(some 31, .agg #[.pointer (some ⟨bs2 0, 0, none⟩), .int .i64 m.length]), (some 32, .pointer (some ⟨bs k, 0, none⟩)), (some 33, .pointer (some ⟨bs k, 0, none⟩)), (some 34, .pointer (some ⟨bs k, 2, none⟩)), (some 35, .pointer (some ⟨bs ((k + 1) % l.length), 0, none⟩)), (some 36, .pointer (some ⟨bs ((k + 1) % l.length), 0, none⟩)), (some 37, .pointer (some ⟨bs ((k + 1) % l.length), 0, none⟩)), (some 38, .agg #[.int .i64 (nxt l k).f0, .int .i64 (nxt l k).f1]), (some 39, .pointer (some ⟨bs k, 0, none⟩)), (some 40, .pointer (some ⟨bs k, 0, none⟩)), (some 41, .pointer (some ⟨bs k, 0, none⟩)), (some 42, .agg #[.int .i64 (at_ l k).f0, .int .i64 (at_ l k).f1]), (some 43, .bool (hasS m (nxt l k) (at_ l k)))] = VS := ⟨_, rfl⟩
    have HN : (VS.filterMap (·.1)).Nodup := by rw [← hVS]; exact (show List.Nodup [(31 : Tmp), (32 : Tmp), (33 : Tmp), (34 : Tmp), (35 : Tmp), (36 : Tmp), (37 : Tmp), (38 : Tmp), (39 : Tmp), (40 : Tmp), (41 : Tmp), (42 : Tmp), (43 : Tmp)] by decide)
    refine act_name fun A0 hA0 => ?_
    have E7 : ∀ L : List Bool, (fill VS L A0).tmps[7]?.getD undef = .pointer (some ⟨w2.heap.size, 0, none⟩) := fun L => fill_old _ _ _ (by rw [← hVS]; exact (show (7 : Tmp) ∉ [(31 : Tmp), (32 : Tmp), (33 : Tmp), (34 : Tmp), (35 : Tmp), (36 : Tmp), (37 : Tmp), (38 : Tmp), (39 : Tmp), (40 : Tmp), (41 : Tmp), (42 : Tmp), (43 : Tmp)] by decide)) (by rw [← hA0]; rfl)
    have E10 : ∀ L : List Bool, (fill VS L A0).tmps[10]?.getD undef = .pointer (some ⟨bs k, 0, none⟩) := fun L => fill_old _ _ _ (by rw [← hVS]; exact (show (10 : Tmp) ∉ [(31 : Tmp), (32 : Tmp), (33 : Tmp), (34 : Tmp), (35 : Tmp), (36 : Tmp), (37 : Tmp), (38 : Tmp), (39 : Tmp), (40 : Tmp), (41 : Tmp), (42 : Tmp), (43 : Tmp)] by decide)) (by rw [← hA0]; rfl)
    have E31 : ∀ L : List Bool, L[0]? = some true → (fill VS L A0).tmps[31]?.getD undef = .agg #[.pointer (some ⟨bs2 0, 0, none⟩), .int .i64 m.length] := fun L h => fill_at HN (j := 0) (by rw [← hVS]; rfl) h (by rw [← hA0]; simp)
    have E32 : ∀ L : List Bool, L[1]? = some true → (fill VS L A0).tmps[32]?.getD undef = .pointer (some ⟨bs k, 0, none⟩) := fun L h => fill_at HN (j := 1) (by rw [← hVS]; rfl) h (by rw [← hA0]; simp)
    have E33 : ∀ L : List Bool, L[2]? = some true → (fill VS L A0).tmps[33]?.getD undef = .pointer (some ⟨bs k, 0, none⟩) := fun L h => fill_at HN (j := 2) (by rw [← hVS]; rfl) h (by rw [← hA0]; simp)
    have E34 : ∀ L : List Bool, L[3]? = some true → (fill VS L A0).tmps[34]?.getD undef = .pointer (some ⟨bs k, 2, none⟩) := fun L h => fill_at HN (j := 3) (by rw [← hVS]; rfl) h (by rw [← hA0]; simp)
    have E35 : ∀ L : List Bool, L[4]? = some true → (fill VS L A0).tmps[35]?.getD undef = .pointer (some ⟨bs ((k + 1) % l.length), 0, none⟩) := fun L h => fill_at HN (j := 4) (by rw [← hVS]; rfl) h (by rw [← hA0]; simp)
    have E36 : ∀ L : List Bool, L[5]? = some true → (fill VS L A0).tmps[36]?.getD undef = .pointer (some ⟨bs ((k + 1) % l.length), 0, none⟩) := fun L h => fill_at HN (j := 5) (by rw [← hVS]; rfl) h (by rw [← hA0]; simp)
    have E37 : ∀ L : List Bool, L[6]? = some true → (fill VS L A0).tmps[37]?.getD undef = .pointer (some ⟨bs ((k + 1) % l.length), 0, none⟩) := fun L h => fill_at HN (j := 6) (by rw [← hVS]; rfl) h (by rw [← hA0]; simp)
    have E38 : ∀ L : List Bool, L[7]? = some true → (fill VS L A0).tmps[38]?.getD undef = .agg #[.int .i64 (nxt l k).f0, .int .i64 (nxt l k).f1] := fun L h => fill_at HN (j := 7) (by rw [← hVS]; rfl) h (by rw [← hA0]; simp)
    have E39 : ∀ L : List Bool, L[8]? = some true → (fill VS L A0).tmps[39]?.getD undef = .pointer (some ⟨bs k, 0, none⟩) := fun L h => fill_at HN (j := 8) (by rw [← hVS]; rfl) h (by rw [← hA0]; simp)
    have E40 : ∀ L : List Bool, L[9]? = some true → (fill VS L A0).tmps[40]?.getD undef = .pointer (some ⟨bs k, 0, none⟩) := fun L h => fill_at HN (j := 9) (by rw [← hVS]; rfl) h (by rw [← hA0]; simp)
    have E41 : ∀ L : List Bool, L[10]? = some true → (fill VS L A0).tmps[41]?.getD undef = .pointer (some ⟨bs k, 0, none⟩) := fun L h => fill_at HN (j := 10) (by rw [← hVS]; rfl) h (by rw [← hA0]; simp)
    have E42 : ∀ L : List Bool, L[11]? = some true → (fill VS L A0).tmps[42]?.getD undef = .agg #[.int .i64 (at_ l k).f0, .int .i64 (at_ l k).f1] := fun L h => fill_at HN (j := 11) (by rw [← hVS]; rfl) h (by rw [← hA0]; simp)
    refine drawn_same (by kernel_rfl) (early_spec (by kernel_rfl)) VS (by rw [← hVS]; rfl) HN (fun w' => Below W.heap.size W w') ((Below.refl _ _).drew) ?_ ?_
    · intro i o v L w' ho hv hpre hS K hK
      have hii : i = 0 ∨ i = 1 ∨ i = 2 ∨ i = 3 ∨ i = 4 ∨ i = 5 ∨ i = 6 ∨ i = 7 ∨ i = 8 ∨ i = 9 ∨ i = 10 ∨ i = 11 ∨ i = 12 := by have hq := (Array.getElem?_eq_some_iff.1 ho).1; simp at hq; omega
      rcases hii with rfl | rfl | rfl | rfl | rfl | rfl | rfl | rfl | rfl | rfl | rfl | rfl | rfl
      · obtain rfl := Option.some.inj ho
        obtain rfl : .agg #[.pointer (some ⟨bs2 0, 0, none⟩), .int .i64 m.length] = v := (Prod.mk.inj (Option.some.inj (show (some (some 31, .agg #[.pointer (some ⟨bs2 0, 0, none⟩), .int .i64 m.length]) : Option (Option Tmp × Value)) = _ from by rw [← hVS] at hv; exact hv))).2
        have e7 := E7 L
        have c1 := (hS.cell (p := ⟨w2.heap.size, 0, none⟩) (by dsimp only; omega)).trans q0
        have c2 := (hS.cell (p := ⟨w2.heap.size, 1, none⟩) (by dsimp only; omega)).trans q1
        refine st_val HF rfl (by simp) rfl (w' := w') ?_ (hK w' hS)
        generalize fill VS L A0 = A at e7 ⊢
        simp [execOp, go_sem, i64_w, e7, c1, c2]
      · obtain rfl := Option.some.inj ho
        obtain rfl : .pointer (some ⟨bs k, 0, none⟩) = v := (Prod.mk.inj (Option.some.inj (show (some (some 32, .pointer (some ⟨bs k, 0, none⟩)) : Option (Option Tmp × Value)) = _ from by rw [← hVS] at hv; exact hv))).2
        have e10 := E10 L
        refine st_val HF rfl (by simp) rfl (w' := w') ?_ (hK w' hS)
        generalize fill VS L A0 = A at e10 ⊢
        simp [execOp, go_sem, i64_w, e10]
      · obtain rfl := Option.some.inj ho
        obtain rfl : .pointer (some ⟨bs k, 0, none⟩) = v := (Prod.mk.inj (Option.some.inj (show (some (some 33, .pointer (some ⟨bs k, 0, none⟩)) : Option (Option Tmp × Value)) = _ from by rw [← hVS] at hv; exact hv))).2
        have e32 := E32 L (hpre ⟨1, .data⟩ (by simp) rfl)
        refine st_val HF rfl (by simp) rfl (w' := w') ?_ (hK w' hS)
        generalize fill VS L A0 = A at e32 ⊢
        simp [execOp, go_sem, i64_w, e32]
      · obtain rfl := Option.some.inj ho
        obtain rfl : .pointer (some ⟨bs k, 2, none⟩) = v := (Prod.mk.inj (Option.some.inj (show (some (some 34, .pointer (some ⟨bs k, 2, none⟩)) : Option (Option Tmp × Value)) = _ from by rw [← hVS] at hv; exact hv))).2
        have e33 := E33 L (hpre ⟨2, .data⟩ (by simp) rfl)
        refine st_val HF rfl (by simp) rfl (w' := w') ?_ (hK w' hS)
        generalize fill VS L A0 = A at e33 ⊢
        simp [execOp, go_sem, i64_w, e33]
      · obtain rfl := Option.some.inj ho
        obtain rfl : .pointer (some ⟨bs ((k + 1) % l.length), 0, none⟩) = v := (Prod.mk.inj (Option.some.inj (show (some (some 35, .pointer (some ⟨bs ((k + 1) % l.length), 0, none⟩)) : Option (Option Tmp × Value)) = _ from by rw [← hVS] at hv; exact hv))).2
        have e34 := E34 L (hpre ⟨3, .data⟩ (by simp) rfl)
        have c1 := hrn.out w' hS
        refine st_val HF rfl (by simp) rfl (w' := w') ?_ (hK w' hS)
        generalize fill VS L A0 = A at e34 ⊢
        simp [execOp, go_sem, i64_w, e34, c1]
      · obtain rfl := Option.some.inj ho
        obtain rfl : .pointer (some ⟨bs ((k + 1) % l.length), 0, none⟩) = v := (Prod.mk.inj (Option.some.inj (show (some (some 36, .pointer (some ⟨bs ((k + 1) % l.length), 0, none⟩)) : Option (Option Tmp × Value)) = _ from by rw [← hVS] at hv; exact hv))).2
        have e35 := E35 L (hpre ⟨4, .data⟩ (by simp) rfl)
        refine st_val HF rfl (by simp) rfl (w' := w') ?_ (hK w' hS)
        generalize fill VS L A0 = A at e35 ⊢
        simp [execOp, go_sem, i64_w, e35]
      · obtain rfl := Option.some.inj ho
        obtain rfl : .pointer (some ⟨bs ((k + 1) % l.length), 0, none⟩) = v := (Prod.mk.inj (Option.some.inj (show (some (some 37, .pointer (some ⟨bs ((k + 1) % l.length), 0, none⟩)) : Option (Option Tmp × Value)) = _ from by rw [← hVS] at hv; exact hv))).2
        have e36 := E36 L (hpre ⟨5, .data⟩ (by simp) rfl)
        refine st_val HF rfl (by simp) rfl (w' := w') ?_ (hK w' hS)
        generalize fill VS L A0 = A at e36 ⊢
        simp [execOp, go_sem, i64_w, e36]
      · obtain rfl := Option.some.inj ho
        obtain rfl : .agg #[.int .i64 (nxt l k).f0, .int .i64 (nxt l k).f1] = v := (Prod.mk.inj (Option.some.inj (show (some (some 38, .agg #[.int .i64 (nxt l k).f0, .int .i64 (nxt l k).f1]) : Option (Option Tmp × Value)) = _ from by rw [← hVS] at hv; exact hv))).2
        have e37 := E37 L (hpre ⟨6, .data⟩ (by simp) rfl)
        have c1 := hnx.out w' hS
        have c2 := hny.out w' hS
        refine st_val HF rfl (by simp) rfl (w' := w') ?_ (hK w' hS)
        generalize fill VS L A0 = A at e37 ⊢
        simp [execOp, go_sem, i64_w, e37, c1, c2]
      · obtain rfl := Option.some.inj ho
        obtain rfl : .pointer (some ⟨bs k, 0, none⟩) = v := (Prod.mk.inj (Option.some.inj (show (some (some 39, .pointer (some ⟨bs k, 0, none⟩)) : Option (Option Tmp × Value)) = _ from by rw [← hVS] at hv; exact hv))).2
        have e10 := E10 L
        refine st_val HF rfl (by simp) rfl (w' := w') ?_ (hK w' hS)
        generalize fill VS L A0 = A at e10 ⊢
        simp [execOp, go_sem, i64_w, e10]
      · obtain rfl := Option.some.inj ho
        obtain rfl : .pointer (some ⟨bs k, 0, none⟩) = v := (Prod.mk.inj (Option.some.inj (show (some (some 40, .pointer (some ⟨bs k, 0, none⟩)) : Option (Option Tmp × Value)) = _ from by rw [← hVS] at hv; exact hv))).2
        have e39 := E39 L (hpre ⟨8, .data⟩ (by simp) rfl)
        refine st_val HF rfl (by simp) rfl (w' := w') ?_ (hK w' hS)
        generalize fill VS L A0 = A at e39 ⊢
        simp [execOp, go_sem, i64_w, e39]
      · obtain rfl := Option.some.inj ho
        obtain rfl : .pointer (some ⟨bs k, 0, none⟩) = v := (Prod.mk.inj (Option.some.inj (show (some (some 41, .pointer (some ⟨bs k, 0, none⟩)) : Option (Option Tmp × Value)) = _ from by rw [← hVS] at hv; exact hv))).2
        have e40 := E40 L (hpre ⟨9, .data⟩ (by simp) rfl)
        refine st_val HF rfl (by simp) rfl (w' := w') ?_ (hK w' hS)
        generalize fill VS L A0 = A at e40 ⊢
        simp [execOp, go_sem, i64_w, e40]
      · obtain rfl := Option.some.inj ho
        obtain rfl : .agg #[.int .i64 (at_ l k).f0, .int .i64 (at_ l k).f1] = v := (Prod.mk.inj (Option.some.inj (show (some (some 42, .agg #[.int .i64 (at_ l k).f0, .int .i64 (at_ l k).f1]) : Option (Option Tmp × Value)) = _ from by rw [← hVS] at hv; exact hv))).2
        have e41 := E41 L (hpre ⟨10, .data⟩ (by simp) rfl)
        have c1 := hrx.out w' hS
        have c2 := hry.out w' hS
        refine st_val HF rfl (by simp) rfl (w' := w') ?_ (hK w' hS)
        generalize fill VS L A0 = A at e41 ⊢
        simp [execOp, go_sem, i64_w, e41, c1, c2]
      · obtain rfl := Option.some.inj ho
        obtain rfl : .bool (hasS m (nxt l k) (at_ l k)) = v := (Prod.mk.inj (Option.some.inj (show (some (some 43, .bool (hasS m (nxt l k) (at_ l k))) : Option (Option Tmp × Value)) = _ from by rw [← hVS] at hv; exact hv))).2
        have e31 := E31 L (hpre ⟨0, .data⟩ (by simp) rfl)
        have e38 := E38 L (hpre ⟨7, .data⟩ (by simp) rfl)
        have e42 := E42 L (hpre ⟨11, .data⟩ (by simp) rfl)
        refine st_call HF rfl (by simp) rfl (w := w') (f := 65) (args := #[.agg #[.pointer (some ⟨bs2 0, 0, none⟩), .int .i64 m.length], .agg #[.int .i64 (nxt l k).f0, .int .i64 (nxt l k).f1], .agg #[.int .i64 (at_ l k).f0, .int .i64 (at_ l k).f1]]) (v := .bool (hasS m (nxt l k) (at_ l k))) ?_ ?_
        · generalize fill VS L A0 = A at e31 e38 e42 ⊢
          simp [execOp, resolve, go_sem, e31, e38, e42]
        · refine (hasSide_calls W.heap.size bs2 m (nxt l k) (at_ l k) w' (HRB3.below hS) hS.size).mono ?_; rintro e w3 ⟨rfl, hb2⟩; exact ⟨rfl, hK w3 (hS.trans (hb2.mono hS.size))⟩
    · intro w' hS'
      rw [← hVS, ← hA0]
      simp only [List.size_toArray, List.length_cons, List.length_nil, Nat.reduceAdd, List.replicate, fill, if_true, Act.put, List.setIfInBounds_toArray, List.set_cons_succ, List.set_cons_zero]
      clear HN E7 E10 E31 E32 E33 E34 E35 E36 E37 E38 E39 E40 E41 E42 hVS hA0
      have jc := (hS'.cell (p := ⟨w2.heap.size + 1, 0, none⟩) (by dsimp only; omega)).trans hc
      have jf := (hS'.frozen (p := ⟨w2.heap.size + 1, 0, none⟩) (by dsimp only; omega)).trans hf
      have HS := Aside0.mk hS'
      clear hS' hc hf
      have hst : cntS l m (k + 1) = if hasS m (nxt l k) (at_ l k) then wrap64 (cntS l m k + 1) else cntS l m k := rfl
      cases hq : hasS m (nxt l k) (at_ l k)
      · rw [hq] at hst
        have HT := Aside0.mk hst
        clear hst hq
        gi_wp2
        exact ⟨KeepsFrom.of_below HS.out, HS.out.mono (by omega), ⟨by rw [HT.out]; exact jc, jf⟩, hb.trans (HS.out.mono (by omega))⟩
      · rw [hq] at hst
        have HT := Aside0.mk hst
        clear hst hq
        gi_wp2
        exact ⟨(KeepsFrom.of_below HS.out).trans ((KeepsOthers.setCell _ _ _).from _), (show Below (w2.heap.size + 1) W w' from HS.out.mono (by omega)).setCell (p := ⟨w2.heap.size + 1, 0, none⟩) (Nat.le_refl _) _, ⟨by rw [HT.out]; exact World.cell?_setCell_same _ _ _ jc, by rw [World.frozen?_setCell]; exact jf⟩, (hb.trans (show Below (w2.heap.size + 1) W w' from HS.out.mono (by omega))).setCell (p := ⟨w2.heap.size + 1, 0, none⟩) (Nat.le_refl _) _⟩

end Go.Proofs.Ytiieoannejlgiaa.Ring
