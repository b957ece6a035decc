/- impl.PolyConvex over lists of corners. -/
import Derived.Test.YtiieoannejlgiaaDrawn
import Derived.Test.YtiieoannejlgiaaRingPolyValid
import Derived.Test.YtiieoannejlgiaaRingPlace
import Derived.Test.YtiieoannejlgiaaQ21
import Derived.Test.YtiieoannejlgiaaQ4
namespace Go.Proofs.Ytiieoannejlgiaa.Ring
open Go.RowKit Go.Shelf Go.Proofs.Ytiieoannejlgiaa.Q Go.Proofs.Ytiieoannejlgiaa.Drawn Go.Proofs.YtiieoannejlgiaaW.PrintWords Go.Proofs.YtiieoannejlgiaaW.PrintLast Go.Proofs.YtiieoannejlgiaaW.PrintMore
set_option linter.unusedVariables false
set_option linter.unusedSimpArgs false
attribute [local go_sem] Oper.semAt_some

def turnS (l : List Pt) (k : Nat) : Int := sgnP (at_ l k) (nxt l k) (nxt l ((k + 1) % l.length))
def turnB (l : List Pt) (k : Nat) : Bool := sidB (at_ l k) (nxt l k) (nxt l ((k + 1) % l.length))
def sgI (x : Int) : Int := Pure.sgn x
def bent (l : List Pt) (k : Nat) : Bool := turnS l k == wrap64 (-(sgI (areaS l l.length)))
def convR (l : List Pt) : Bool := (List.range l.length).all (fun k => !bent l k)
theorem convR_no {l : List Pt} {k : Nat} (hk : k < l.length) (h : bent l k = true) : convR l = false := by
  unfold convR
  cases hc : (List.range l.length).all (fun k => !bent l k)
  · rfl
  · have := List.all_eq_true.1 hc k (List.mem_range.2 hk)
    rw [h] at this; cases this
theorem convR_yes {l : List Pt} (h : ∀ k, k < l.length → bent l k = false) : convR l = true := by
  unfold convR
  exact List.all_eq_true.2 fun k hk => by rw [h k (List.mem_range.1 hk)]; rfl
theorem signI_f (x : Int) : impl_signInt.f x = some (sgI x) := by exact Pure.signInt_eq x
set_option maxRecDepth 100000 in
set_option maxHeartbeats 4000000 in
theorem polyConvex_no (A0 : Option Addr) (c0 : Nat) (l : List Pt) (w : World) (hr0 : Kd.C k37 w A0 l.length l) (hc0 : l.length ≤ c0) (h : okS l = false) :
    Calls Try.prog 29 #[.slice A0 l.length c0] w fun e w' => e = .returned (.bool false) ∧ Below w.heap.size w w' := by
  have HR0 := Aside0.mk hr0
  have HC0 := Aside0.mk hc0
  have HX := Aside0.mk h
  clear hr0 hc0 h
  go_enter Try.func29, Try.ntmps29
  go_wp2_with (go_at_call 54; refine (simple_isnt A0 c0 l _ ?s1 HC0.out HX.out).mono ?_; (case s1 => exact Kd.C_below HR0.out ((Below.refl _ _).alloc (Nat.le_refl _) _)); rintro e w1 ⟨rfl, hb⟩; have hz : w.heap.size < w1.heap.size := (by have := hb.size; simp at this; omega); have hz1 : ¬ w1.heap.size = w.heap.size := (by omega); have hz2 : ¬ w.heap.size = w1.heap.size := (by omega); have HB := Aside0.mk (((Below.refl w.heap.size w).alloc (Nat.le_refl _) _).trans (hb.mono (by simp))); have hb' := Below.mono hb (B' := w.heap.size + 1) (by simp); have z0 := (at_new hb' 0).1; have z1 := (at_new hb' 0).2; simp [go_sem] at z0 z1; clear hb hb')
  refine bodyPost_ret (v := .bool false) (by simp [results, Try.results29, go_sem, z0, hz, hz1, hz2]) rfl ⟨rfl, ?_⟩
  exact (HB.out.setCell (p := ⟨w.heap.size, 0, none⟩) (Nat.le_refl _) _).alloc (by simp; omega) _

set_option maxRecDepth 100000 in
set_option maxHeartbeats 4000000 in
theorem polyConvex_yes (A0 : Option Addr) (c0 : Nat) (l : List Pt) (w : World) (hr0 : Kd.C k37 w A0 l.length l) (hc0 : l.length ≤ c0) (h : okS l = true) :
    Calls Try.prog 29 #[.slice A0 l.length c0] w fun e w' => e = .returned (.bool (convR l)) ∧ Below w.heap.size w w' := by
  have HR0 := Aside0.mk hr0
  have HC0 := Aside0.mk hc0
  have HX := Aside0.mk h
  clear hr0 hc0 h
  refine (callsIn_wide (n := 0)).1 (callsIn_of_wp_marks Try.func29 rfl trivial ?_ rfl)
  simp only [Try.ntmps29, List.size_toArray, List.length_cons, List.length_nil, Nat.reduceAdd, Nat.reduceSub, Array.replicate_succ, Array.replicate_zero, List.push_toArray, List.append_toArray, List.nil_append, List.cons_append]
  have hz0 : (w.alloc (.cells #[.bool false] 4)).heap.size = w.heap.size + 1 := by simp
  gi_wp2_with (first | ((first | refine ⟨trivial, rfl, ?_⟩ | refine ⟨rfl, ?_⟩ | skip); gi_at_call 54; refine (callsIn_wide.2 (simple_yes A0 c0 l _ (Kd.C_below HR0.out ((Below.refl _ _).alloc (Nat.le_refl _) _)) HC0.out HX.out)).mono ?_; rintro e w1 ⟨bs, rfl, hR, hlo0, hb⟩; have HR := Aside0.mk hR; have HB := Aside0.mk (((Below.refl w.heap.size w).alloc (Nat.le_refl _) (.cells #[.bool false] 4)).trans (hb.mono (by simp))); have HB1 := Aside0.mk (Below.mono hb (B' := w.heap.size + 1) (by simp)); have hz1 : w.heap.size < w1.heap.size := (by have := hb.size; simp at this; omega); clear hb hR hlo0) | ((first | refine ⟨trivial, rfl, ?_⟩ | refine ⟨rfl, ?_⟩ | skip); gi_at_call 51; refine (callsIn_wide.2 (area_calls w1.heap.size bs l _ (HR.out.below ((Below.refl _ _).alloc (Nat.le_refl _) _)) (by simp))).mono ?_; rintro e w2 ⟨rfl, hb2⟩; have HB2 := Aside0.mk hb2; clear hb2) | ((first | refine ⟨trivial, rfl, ?_⟩ | refine ⟨rfl, ?_⟩ | skip); gi_at_call 58; refine (callsIn_wide.2 (impl_signInt.calls _ _ _ (signI_f _))).mono ?_; rintro e w3 ⟨rfl, hb3⟩; have HB3 := Aside0.mk (show Below w2.heap.size w2 w3 from by obtain ⟨nd, rfl⟩ := hb3; exact pw_below_drewN (Below.refl _ _) _); have hbA := Aside0.mk (show Below (w1.heap.size + 1) (w1.alloc (.cells #[.pointer (some ⟨bs 0, 0, none⟩), .int .i64 l.length] 54)) w3 from HB2.out.mono (by simp) |>.trans (HB3.out.mono (by have := HB2.out.size; simp at this; omega))); have hz3 : w1.heap.size < w3.heap.size := (by have := hbA.out.size; simp at this; omega); have hz4 : w.heap.size < w3.heap.size := (by omega); have hz5 : ¬ w1.heap.size = w3.heap.size := (by omega); have hz6 : ¬ w.heap.size = w3.heap.size := (by omega); have hz7 : ¬ w3.heap.size = w1.heap.size := (by omega); have hz8 : ¬ w3.heap.size = w.heap.size := (by omega); have q0 := (at_new hbA.out 0).1; have q1 := (at_new hbA.out 1).1; have r0 := (hbA.out.cell (p := ⟨w.heap.size, 0, none⟩) (by dsimp only; omega)).trans ((World.cell?_alloc_lt _ _ _ (by simpa using hz1)).trans (at_new HB1.out 0).1); have r1 := (hbA.out.frozen (p := ⟨w.heap.size, 0, none⟩) (by dsimp only; omega)).trans ((((Below.refl w1.heap.size w1).alloc (Nat.le_refl _) _).frozen (p := ⟨w.heap.size, 0, none⟩) (by dsimp only; omega)).trans (at_new HB1.out 0).2); simp [go_sem] at q0 q1 r0 r1; clear hb3))
  obtain ⟨W0, hW0⟩ : ∃ W0, w3.alloc (.cells #[.int .i64 (sgI (areaS l l.length))] 3) = W0 := ⟨_, rfl⟩
  have hs : W0.heap.size = w3.heap.size + 1 := by rw [← hW0]; simp
  have hc0 : W0.cell? ⟨w3.heap.size, 0, none⟩ = some (.int .i64 (sgI (areaS l l.length))) := by rw [← hW0]; simp [go_sem]
  have hr0 : W0.cell? ⟨w.heap.size, 0, none⟩ = some (.bool false) := by rw [← hW0]; exact (World.cell?_alloc_lt _ _ _ (by simpa using hz4)).trans r0
  have hf0 : W0.frozen? ⟨w.heap.size, 0, none⟩ = false := by rw [← hW0]; exact (((Below.refl w3.heap.size w3).alloc (Nat.le_refl _) _).frozen (p := ⟨w.heap.size, 0, none⟩) (by dsimp only; omega)).trans r1
  have hbA0 : Below w1.heap.size w1 W0 := by rw [← hW0]; exact ((((Below.refl w1.heap.size w1).alloc (Nat.le_refl _) _).trans (hbA.out.mono (by omega))).alloc (by omega) _)
  have hb0 : Below w.heap.size w W0 := HB.out.trans (hbA0.mono (by omega))
  have HR0 := Aside0.mk ((HR.out.below hbA0).mono (show w1.heap.size ≤ W0.heap.size by omega))
  rw [hW0]
  clear hW0 q0 q1 r0 r1 hbA hbA0 HB1 HB2 HB3
  refine range_ring W0.heap.size bs l HR0.out (Nat.le_refl _) rfl
    (fun j W => (∀ i, i < j → bent l i = false) ∧ Below W0.heap.size W0 W)
    (fun c W => c = .ret ∧ (W.cell? ⟨w.heap.size, 0, none⟩ = some (.bool false) ∧ Below w.heap.size w W) ∧ convR l = false)
    ?hI ?hIx ⟨fun i hi => by omega, Below.refl _ _⟩ ?a1 ?assign ?body ?done ?stop
  case hI => exact fun s A B row hs' hg hr => ⟨hs'.1, ownFrom_below (β := Unit) (n₀ := W0.heap.size) (w₀ := W0) (Nat.le_refl _) (Nat.le_refl _) () A B row hs'.2 hg hr⟩
  case hIx => exact fun c A B row hs' hg hr => ⟨hs'.1, ⟨cell_kept hs'.2.1.1 hg (fun r e => (hr r e).2), ownFrom_below (β := Unit) (n₀ := w.heap.size) (w₀ := w) (Nat.le_refl _) (by omega) () A B row hs'.2.1.2 hg hr⟩, hs'.2.2⟩
  case assign =>
    intro r k W K hK
    gi_wp2
    exact hK
  case stop =>
    rintro D c W hD ⟨rfl, ⟨hc, hb⟩, hsb⟩ hK
    have HSB := Aside0.mk hsb
    clear hsb
    have hcD : (W.putObj D (.deferred none)).cell? ⟨w.heap.size, 0, none⟩ = some (.bool false) := cell_kept hc (grownBy_putObj' _ D (.deferred none)) (fun r e => by cases e; exact ⟨_, hK, rfl⟩)
    gi_wp2
    refine ⟨by simp, .inl ⟨_, _, rfl, run_takeDeferred hK, ?_⟩⟩
    exact ⟨_, (by simp [results, Try.results29, go_sem, hcD]; rfl), by rw [HSB.out], hb.trans (belowK_b (w := W0) (by omega) _ _ _ _ hD hK rfl rfl)⟩
  case done =>
    rintro D W hD ⟨hp, hb⟩ hK
    have HSB := Aside0.mk (convR_yes hp)
    have hc := (hb.cell (p := ⟨w.heap.size, 0, none⟩) (by dsimp only; omega)).trans hr0
    have hf := (hb.frozen (p := ⟨w.heap.size, 0, none⟩) (by dsimp only; omega)).trans hf0
    have hK' := (KeepsOthers.setCell W ⟨w.heap.size, 0, none⟩ (.bool true)).same D _ hK rfl
    have hcD : ((W.setCell ⟨w.heap.size, 0, none⟩ (.bool true)).putObj D (.deferred none)).cell? ⟨w.heap.size, 0, none⟩ = some (.bool true) := cell_kept (World.cell?_setCell_same _ _ _ hc) (grownBy_putObj' _ D (.deferred none)) (fun r e => by cases e; exact ⟨_, hK', rfl⟩)
    have hbE := ((hb0.trans (hb.mono (by omega))).setCell (p := ⟨w.heap.size, 0, none⟩) (by dsimp only; omega) (.bool true)).trans (belowK_b (w := W0) (n₀ := w.heap.size) (by omega) _ _ _ (.deferred none) hD hK' rfl rfl)
    clear hp
    gi_wp2
    refine ⟨by simp, .inl ⟨_, _, rfl, run_takeDeferred hK', ?_⟩⟩
    exact ⟨_, (by simp [results, Try.results29, go_sem, hcD]; rfl), by rw [HSB.out], hbE⟩
  case body =>
    rintro r k W hk ⟨hpre, hb⟩ hbt
    have HF := wide_round Try.prog r
    have hsW := hb.size
    have hRW0 := (HR0.out.below hb).mono hsW
    have HPR := Aside0.mk hpre
    clear hpre
    have hRW := hRW0
    have hkp := hRW.pos
    have hrx := Aside0.mk (fun w' (h : Below W.heap.size W w') => (hRW.below h).x k hk)
    have hry := Aside0.mk (fun w' (h : Below W.heap.size W w') => (hRW.below h).y k hk)
    have hrn := Aside0.mk (fun w' (h : Below W.heap.size W w') => (hRW.below h).next k hk)
    have hnk : (k + 1) % l.length < l.length := Nat.mod_lt _ (by omega)
    have hnx := Aside0.mk (fun w' (h : Below W.heap.size W w') => (show w'.cell? ⟨bs ((k + 1) % l.length), 0, none⟩ = some (.int .i64 (nxt l k).f0) from (hRW.below h).x _ hnk))
    have hny := Aside0.mk (fun w' (h : Below W.heap.size W w') => (show w'.cell? ⟨bs ((k + 1) % l.length), 1, none⟩ = some (.int .i64 (nxt l k).f1) from (hRW.below h).y _ hnk))
    have hn2 : ((k + 1) % l.length + 1) % l.length < l.length := Nat.mod_lt _ (by omega)
    have hnn := Aside0.mk (fun w' (h : Below W.heap.size W w') => (hRW.below h).next _ hnk)
    have hmx := Aside0.mk (fun w' (h : Below W.heap.size W w') => (show w'.cell? ⟨bs (((k + 1) % l.length + 1) % l.length), 0, none⟩ = some (.int .i64 (nxt l ((k + 1) % l.length)).f0) from (hRW.below h).x _ hn2))
    have hmy := Aside0.mk (fun w' (h : Below W.heap.size W w') => (show w'.cell? ⟨bs (((k + 1) % l.length + 1) % l.length), 1, none⟩ = some (.int .i64 (nxt l ((k + 1) % l.length)).f1) from (hRW.below h).y _ hn2))
    clear hRW
    obtain ⟨i2, hi2⟩ : ∃ i2, ((k + 1) % l.length + 1) % l.length = i2 := ⟨_, rfl⟩
    rw [hi2] at hn2 hnn hmx hmy
    clear hi2
    have hc := (hb.cell (p := ⟨w3.heap.size, 0, none⟩) (by dsimp only; omega)).trans hc0
    have hr := (hb.cell (p := ⟨w.heap.size, 0, none⟩) (by dsimp only; omega)).trans hr0
    have hf := (hb.frozen (p := ⟨w.heap.size, 0, none⟩) (by dsimp only; omega)).trans hf0
    gi_wp2
    obtain ⟨VS, hVS⟩ : ∃ VS : List (Option Tmp × Value), [(some 23, .pointer (some ⟨bs k, 0, none⟩)), (some 24, .pointer (some ⟨bs k, 0, none⟩)), (some 25, .pointer (some ⟨bs k, 0, none⟩)), (some 26, .agg #[.int .i64 (at_ l k).f0, .int .i64 (at_ l k).f1]), (some 27, .pointer (some ⟨bs k, 0, none⟩)), (some 28, .pointer (some ⟨bs k, 0, none⟩)), (some 29, .pointer (some ⟨bs k, 2, none⟩)), (some 30, .pointer (some ⟨bs ((k + 1) % l.length), 0, none⟩)), (some 31, .pointer (some ⟨bs ((k + 1) % l.length), 0, none⟩)), (some 32, .pointer (some ⟨bs ((k + 1) % l.length), 0, none⟩)), (some 33, .agg #[.int .i64 (nxt l k).f0, .int .i64 (nxt l k).f1]), (some 34, .pointer (some ⟨bs k, 0, none⟩)), (some 35, .pointer (some ⟨bs k, 0, none⟩)), (some 36, .pointer (some ⟨bs k, 2, none⟩)), (some 37, .pointer (some ⟨bs ((k + 1) % l.length), 0, none⟩)), (some 38, .pointer (some ⟨bs ((k + 1) % l.length), 0, none⟩)), (some 39, .pointer (some ⟨bs ((k + 1) % l.length), 2, none⟩)), (some 40, .pointer (some ⟨bs i2, 0, none⟩)), (some 41, .pointer (some ⟨bs i2, 0, none⟩)), (some 42, .pointer (some ⟨bs i2, 0, none⟩)), (some 43, .agg #[.int .i64 (nxt l ((k + 1) % l.length)).f0, .int .i64 (nxt l ((k + 1) % l.length)).f1]), (some 44, .tuple #[.int .i64 (turnS l k), .bool (turnB l k)]), (some 22, .tuple #[.int .i64 (turnS l k), .bool (turnB l k)]), (some 45, .int .i64 (turnS l k)), (some 46, .bool (turnB l k)), (some 7, .int .i64 (turnS l k)), (some 8, .bool (turnB l k))] = VS := ⟨_, rfl⟩
    have HN : (VS.filterMap (·.1)).Nodup := by rw [← hVS]; exact (show List.Nodup [(23 : Tmp), (24 : Tmp), (25 : Tmp), (26 : Tmp), (27 : Tmp), (28 : Tmp), (29 : Tmp), (30 : Tmp), (31 : Tmp), (32 : Tmp), (33 : Tmp), (34 : Tmp), (35 : Tmp), (36 : Tmp), (37 : Tmp), (38 : Tmp), (39 : Tmp), (40 : Tmp), (41 : Tmp), (42 : Tmp), (43 : Tmp), (44 : Tmp), (22 : Tmp), (45 : Tmp), (46 : Tmp), (7 : Tmp), (8 : Tmp)] by decide)
    refine act_name fun A0 hA0 => ?_
    have E6 : ∀ L : List Bool, (fill VS L A0).tmps[6]?.getD undef = .pointer (some ⟨bs k, 0, none⟩) := fun L => fill_old _ _ _ (by rw [← hVS]; exact (show (6 : Tmp) ∉ [(23 : Tmp), (24 : Tmp), (25 : Tmp), (26 : Tmp), (27 : Tmp), (28 : Tmp), (29 : Tmp), (30 : Tmp), (31 : Tmp), (32 : Tmp), (33 : Tmp), (34 : Tmp), (35 : Tmp), (36 : Tmp), (37 : Tmp), (38 : Tmp), (39 : Tmp), (40 : Tmp), (41 : Tmp), (42 : Tmp), (43 : Tmp), (44 : Tmp), (22 : Tmp), (45 : Tmp), (46 : Tmp), (7 : Tmp), (8 : Tmp)] by decide)) (by rw [← hA0]; rfl)
    have E22 : ∀ L : List Bool, L[22]? = some true → (fill VS L A0).tmps[22]?.getD undef = .tuple #[.int .i64 (turnS l k), .bool (turnB l k)] := fun L h => fill_at HN (j := 22) (by rw [← hVS]; rfl) h (by rw [← hA0]; simp)
    have E23 : ∀ L : List Bool, L[0]? = some true → (fill VS L A0).tmps[23]?.getD undef = .pointer (some ⟨bs k, 0, none⟩) := fun L h => fill_at HN (j := 0) (by rw [← hVS]; rfl) h (by rw [← hA0]; simp)
    have E24 : ∀ L : List Bool, L[1]? = some true → (fill VS L A0).tmps[24]?.getD undef = .pointer (some ⟨bs k, 0, none⟩) := fun L h => fill_at HN (j := 1) (by rw [← hVS]; rfl) h (by rw [← hA0]; simp)
    have E25 : ∀ L : List Bool, L[2]? = some true → (fill VS L A0).tmps[25]?.getD undef = .pointer (some ⟨bs k, 0, none⟩) := fun L h => fill_at HN (j := 2) (by rw [← hVS]; rfl) h (by rw [← hA0]; simp)
    have E26 : ∀ L : List Bool, L[3]? = some true → (fill VS L A0).tmps[26]?.getD undef = .agg #[.int .i64 (at_ l k).f0, .int .i64 (at_ l k).f1] := fun L h => fill_at HN (j := 3) (by rw [← hVS]; rfl) h (by rw [← hA0]; simp)
    have E27 : ∀ L : List Bool, L[4]? = some true → (fill VS L A0).tmps[27]?.getD undef = .pointer (some ⟨bs k, 0, none⟩) := fun L h => fill_at HN (j := 4) (by rw [← hVS]; rfl) h (by rw [← hA0]; simp)
    have E28 : ∀ L : List Bool, L[5]? = some true → (fill VS L A0).tmps[28]?.getD undef = .pointer (some ⟨bs k, 0, none⟩) := fun L h => fill_at HN (j := 5) (by rw [← hVS]; rfl) h (by rw [← hA0]; simp)
    have E29 : ∀ L : List Bool, L[6]? = some true → (fill VS L A0).tmps[29]?.getD undef = .pointer (some ⟨bs k, 2, none⟩) := fun L h => fill_at HN (j := 6) (by rw [← hVS]; rfl) h (by rw [← hA0]; simp)
    have E30 : ∀ L : List Bool, L[7]? = some true → (fill VS L A0).tmps[30]?.getD undef = .pointer (some ⟨bs ((k + 1) % l.length), 0, none⟩) := fun L h => fill_at HN (j := 7) (by rw [← hVS]; rfl) h (by rw [← hA0]; simp)
    have E31 : ∀ L : List Bool, L[8]? = some true → (fill VS L A0).tmps[31]?.getD undef = .pointer (some ⟨bs ((k + 1) % l.length), 0, none⟩) := fun L h => fill_at HN (j := 8) (by rw [← hVS]; rfl) h (by rw [← hA0]; simp)
    have E32 : ∀ L : List Bool, L[9]? = some true → (fill VS L A0).tmps[32]?.getD undef = .pointer (some ⟨bs ((k + 1) % l.length), 0, none⟩) := fun L h => fill_at HN (j := 9) (by rw [← hVS]; rfl) h (by rw [← hA0]; simp)
    have E33 : ∀ L : List Bool, L[10]? = some true → (fill VS L A0).tmps[33]?.getD undef = .agg #[.int .i64 (nxt l k).f0, .int .i64 (nxt l k).f1] := fun L h => fill_at HN (j := 10) (by rw [← hVS]; rfl) h (by rw [← hA0]; simp)
    have E34 : ∀ L : List Bool, L[11]? = some true → (fill VS L A0).tmps[34]?.getD undef = .pointer (some ⟨bs k, 0, none⟩) := fun L h => fill_at HN (j := 11) (by rw [← hVS]; rfl) h (by rw [← hA0]; simp)
    have E35 : ∀ L : List Bool, L[12]? = some true → (fill VS L A0).tmps[35]?.getD undef = .pointer (some ⟨bs k, 0, none⟩) := fun L h => fill_at HN (j := 12) (by rw [← hVS]; rfl) h (by rw [← hA0]; simp)
    have E36 : ∀ L : List Bool, L[13]? = some true → (fill VS L A0).tmps[36]?.getD undef = .pointer (some ⟨bs k, 2, none⟩) := fun L h => fill_at HN (j := 13) (by rw [← hVS]; rfl) h (by rw [← hA0]; simp)
    have E37 : ∀ L : List Bool, L[14]? = some true → (fill VS L A0).tmps[37]?.getD undef = .pointer (some ⟨bs ((k + 1) % l.length), 0, none⟩) := fun L h => fill_at HN (j := 14) (by rw [← hVS]; rfl) h (by rw [← hA0]; simp)
    have E38 : ∀ L : List Bool, L[15]? = some true → (fill VS L A0).tmps[38]?.getD undef = .pointer (some ⟨bs ((k + 1) % l.length), 0, none⟩) := fun L h => fill_at HN (j := 15) (by rw [← hVS]; rfl) h (by rw [← hA0]; simp)
    have E39 : ∀ L : List Bool, L[16]? = some true → (fill VS L A0).tmps[39]?.getD undef = .pointer (some ⟨bs ((k + 1) % l.length), 2, none⟩) := fun L h => fill_at HN (j := 16) (by rw [← hVS]; rfl) h (by rw [← hA0]; simp)
    have E40 : ∀ L : List Bool, L[17]? = some true → (fill VS L A0).tmps[40]?.getD undef = .pointer (some ⟨bs i2, 0, none⟩) := fun L h => fill_at HN (j := 17) (by rw [← hVS]; rfl) h (by rw [← hA0]; simp)
    have E41 : ∀ L : List Bool, L[18]? = some true → (fill VS L A0).tmps[41]?.getD undef = .pointer (some ⟨bs i2, 0, none⟩) := fun L h => fill_at HN (j := 18) (by rw [← hVS]; rfl) h (by rw [← hA0]; simp)
    have E42 : ∀ L : List Bool, L[19]? = some true → (fill VS L A0).tmps[42]?.getD undef = .pointer (some ⟨bs i2, 0, none⟩) := fun L h => fill_at HN (j := 19) (by rw [← hVS]; rfl) h (by rw [← hA0]; simp)
    have E43 : ∀ L : List Bool, L[20]? = some true → (fill VS L A0).tmps[43]?.getD undef = .agg #[.int .i64 (nxt l ((k + 1) % l.length)).f0, .int .i64 (nxt l ((k + 1) % l.length)).f1] := fun L h => fill_at HN (j := 20) (by rw [← hVS]; rfl) h (by rw [← hA0]; simp)
    have E44 : ∀ L : List Bool, L[21]? = some true → (fill VS L A0).tmps[44]?.getD undef = .tuple #[.int .i64 (turnS l k), .bool (turnB l k)] := fun L h => fill_at HN (j := 21) (by rw [← hVS]; rfl) h (by rw [← hA0]; simp)
    have E45 : ∀ L : List Bool, L[23]? = some true → (fill VS L A0).tmps[45]?.getD undef = .int .i64 (turnS l k) := fun L h => fill_at HN (j := 23) (by rw [← hVS]; rfl) h (by rw [← hA0]; simp)
    have E46 : ∀ L : List Bool, L[24]? = some true → (fill VS L A0).tmps[46]?.getD undef = .bool (turnB l k) := fun L h => fill_at HN (j := 24) (by rw [← hVS]; rfl) h (by rw [← hA0]; simp)
    refine drawn_same (by kernel_rfl) (early_spec (by kernel_rfl)) VS (by rw [← hVS]; rfl) HN (fun w' => Below W.heap.size W w') ((Below.refl _ _).drew) ?_ ?_
    · intro i o v L w' ho hv hpre hS K hK
      have hii : i = 0 ∨ i = 1 ∨ i = 2 ∨ i = 3 ∨ i = 4 ∨ i = 5 ∨ i = 6 ∨ i = 7 ∨ i = 8 ∨ i = 9 ∨ i = 10 ∨ i = 11 ∨ i = 12 ∨ i = 13 ∨ i = 14 ∨ i = 15 ∨ i = 16 ∨ i = 17 ∨ i = 18 ∨ i = 19 ∨ i = 20 ∨ i = 21 ∨ i = 22 ∨ i = 23 ∨ i = 24 ∨ i = 25 ∨ i = 26 := by have hq := (Array.getElem?_eq_some_iff.1 ho).1; simp at hq; omega
      rcases hii with rfl | rfl | rfl | rfl | rfl | rfl | rfl | rfl | rfl | rfl | rfl | rfl | rfl | rfl | rfl | rfl | rfl | rfl | rfl | rfl | rfl | rfl | rfl | rfl | rfl | rfl | rfl
      · obtain rfl := Option.some.inj ho
        obtain rfl : .pointer (some ⟨bs k, 0, none⟩) = v := (Prod.mk.inj (Option.some.inj (show (some (some 23, .pointer (some ⟨bs k, 0, none⟩)) : Option (Option Tmp × Value)) = _ from by rw [← hVS] at hv; exact hv))).2
        have e6 := E6 L
        refine st_val HF rfl (by simp) rfl (w' := w') ?_ (hK w' hS)
        generalize fill VS L A0 = A at e6 ⊢
        simp [execOp, go_sem, i64_w, e6]
      · obtain rfl := Option.some.inj ho
        obtain rfl : .pointer (some ⟨bs k, 0, none⟩) = v := (Prod.mk.inj (Option.some.inj (show (some (some 24, .pointer (some ⟨bs k, 0, none⟩)) : Option (Option Tmp × Value)) = _ from by rw [← hVS] at hv; exact hv))).2
        have e23 := E23 L (hpre ⟨0, .data⟩ (by simp) rfl)
        refine st_val HF rfl (by simp) rfl (w' := w') ?_ (hK w' hS)
        generalize fill VS L A0 = A at e23 ⊢
        simp [execOp, go_sem, i64_w, e23]
      · obtain rfl := Option.some.inj ho
        obtain rfl : .pointer (some ⟨bs k, 0, none⟩) = v := (Prod.mk.inj (Option.some.inj (show (some (some 25, .pointer (some ⟨bs k, 0, none⟩)) : Option (Option Tmp × Value)) = _ from by rw [← hVS] at hv; exact hv))).2
        have e24 := E24 L (hpre ⟨1, .data⟩ (by simp) rfl)
        refine st_val HF rfl (by simp) rfl (w' := w') ?_ (hK w' hS)
        generalize fill VS L A0 = A at e24 ⊢
        simp [execOp, go_sem, i64_w, e24]
      · obtain rfl := Option.some.inj ho
        obtain rfl : .agg #[.int .i64 (at_ l k).f0, .int .i64 (at_ l k).f1] = v := (Prod.mk.inj (Option.some.inj (show (some (some 26, .agg #[.int .i64 (at_ l k).f0, .int .i64 (at_ l k).f1]) : Option (Option Tmp × Value)) = _ from by rw [← hVS] at hv; exact hv))).2
        have e25 := E25 L (hpre ⟨2, .data⟩ (by simp) rfl)
        have c1 := hrx.out w' hS
        have c2 := hry.out w' hS
        refine st_val HF rfl (by simp) rfl (w' := w') ?_ (hK w' hS)
        generalize fill VS L A0 = A at e25 ⊢
        simp [execOp, go_sem, i64_w, e25, c1, c2]
      · obtain rfl := Option.some.inj ho
        obtain rfl : .pointer (some ⟨bs k, 0, none⟩) = v := (Prod.mk.inj (Option.some.inj (show (some (some 27, .pointer (some ⟨bs k, 0, none⟩)) : Option (Option Tmp × Value)) = _ from by rw [← hVS] at hv; exact hv))).2
        have e6 := E6 L
        refine st_val HF rfl (by simp) rfl (w' := w') ?_ (hK w' hS)
        generalize fill VS L A0 = A at e6 ⊢
        simp [execOp, go_sem, i64_w, e6]
      · obtain rfl := Option.some.inj ho
        obtain rfl : .pointer (some ⟨bs k, 0, none⟩) = v := (Prod.mk.inj (Option.some.inj (show (some (some 28, .pointer (some ⟨bs k, 0, none⟩)) : Option (Option Tmp × Value)) = _ from by rw [← hVS] at hv; exact hv))).2
        have e27 := E27 L (hpre ⟨4, .data⟩ (by simp) rfl)
        refine st_val HF rfl (by simp) rfl (w' := w') ?_ (hK w' hS)
        generalize fill VS L A0 = A at e27 ⊢
        simp [execOp, go_sem, i64_w, e27]
      · obtain rfl := Option.some.inj ho
        obtain rfl : .pointer (some ⟨bs k, 2, none⟩) = v := (Prod.mk.inj (Option.some.inj (show (some (some 29, .pointer (some ⟨bs k, 2, none⟩)) : Option (Option Tmp × Value)) = _ from by rw [← hVS] at hv; exact hv))).2
        have e28 := E28 L (hpre ⟨5, .data⟩ (by simp) rfl)
        refine st_val HF rfl (by simp) rfl (w' := w') ?_ (hK w' hS)
        generalize fill VS L A0 = A at e28 ⊢
        simp [execOp, go_sem, i64_w, e28]
      · obtain rfl := Option.some.inj ho
        obtain rfl : .pointer (some ⟨bs ((k + 1) % l.length), 0, none⟩) = v := (Prod.mk.inj (Option.some.inj (show (some (some 30, .pointer (some ⟨bs ((k + 1) % l.length), 0, none⟩)) : Option (Option Tmp × Value)) = _ from by rw [← hVS] at hv; exact hv))).2
        have e29 := E29 L (hpre ⟨6, .data⟩ (by simp) rfl)
        have c1 := hrn.out w' hS
        refine st_val HF rfl (by simp) rfl (w' := w') ?_ (hK w' hS)
        generalize fill VS L A0 = A at e29 ⊢
        simp [execOp, go_sem, i64_w, e29, c1]
      · obtain rfl := Option.some.inj ho
        obtain rfl : .pointer (some ⟨bs ((k + 1) % l.length), 0, none⟩) = v := (Prod.mk.inj (Option.some.inj (show (some (some 31, .pointer (some ⟨bs ((k + 1) % l.length), 0, none⟩)) : Option (Option Tmp × Value)) = _ from by rw [← hVS] at hv; exact hv))).2
        have e30 := E30 L (hpre ⟨7, .data⟩ (by simp) rfl)
        refine st_val HF rfl (by simp) rfl (w' := w') ?_ (hK w' hS)
        generalize fill VS L A0 = A at e30 ⊢
        simp [execOp, go_sem, i64_w, e30]
      · obtain rfl := Option.some.inj ho
        obtain rfl : .pointer (some ⟨bs ((k + 1) % l.length), 0, none⟩) = v := (Prod.mk.inj (Option.some.inj (show (some (some 32, .pointer (some ⟨bs ((k + 1) % l.length), 0, none⟩)) : Option (Option Tmp × Value)) = _ from by rw [← hVS] at hv; exact hv))).2
        have e31 := E31 L (hpre ⟨8, .data⟩ (by simp) rfl)
        refine st_val HF rfl (by simp) rfl (w' := w') ?_ (hK w' hS)
        generalize fill VS L A0 = A at e31 ⊢
        simp [execOp, go_sem, i64_w, e31]
      · obtain rfl := Option.some.inj ho
        obtain rfl : .agg #[.int .i64 (nxt l k).f0, .int .i64 (nxt l k).f1] = v := (Prod.mk.inj (Option.some.inj (show (some (some 33, .agg #[.int .i64 (nxt l k).f0, .int .i64 (nxt l k).f1]) : Option (Option Tmp × Value)) = _ from by rw [← hVS] at hv; exact hv))).2
        have e32 := E32 L (hpre ⟨9, .data⟩ (by simp) rfl)
        have c1 := hnx.out w' hS
        have c2 := hny.out w' hS
        refine st_val HF rfl (by simp) rfl (w' := w') ?_ (hK w' hS)
        generalize fill VS L A0 = A at e32 ⊢
        simp [execOp, go_sem, i64_w, e32, c1, c2]
      · obtain rfl := Option.some.inj ho
        obtain rfl : .pointer (some ⟨bs k, 0, none⟩) = v := (Prod.mk.inj (Option.some.inj (show (some (some 34, .pointer (some ⟨bs k, 0, none⟩)) : Option (Option Tmp × Value)) = _ from by rw [← hVS] at hv; exact hv))).2
        have e6 := E6 L
        refine st_val HF rfl (by simp) rfl (w' := w') ?_ (hK w' hS)
        generalize fill VS L A0 = A at e6 ⊢
        simp [execOp, go_sem, i64_w, e6]
      · obtain rfl := Option.some.inj ho
        obtain rfl : .pointer (some ⟨bs k, 0, none⟩) = v := (Prod.mk.inj (Option.some.inj (show (some (some 35, .pointer (some ⟨bs k, 0, none⟩)) : Option (Option Tmp × Value)) = _ from by rw [← hVS] at hv; exact hv))).2
        have e34 := E34 L (hpre ⟨11, .data⟩ (by simp) rfl)
        refine st_val HF rfl (by simp) rfl (w' := w') ?_ (hK w' hS)
        generalize fill VS L A0 = A at e34 ⊢
        simp [execOp, go_sem, i64_w, e34]
      · obtain rfl := Option.some.inj ho
        obtain rfl : .pointer (some ⟨bs k, 2, none⟩) = v := (Prod.mk.inj (Option.some.inj (show (some (some 36, .pointer (some ⟨bs k, 2, none⟩)) : Option (Option Tmp × Value)) = _ from by rw [← hVS] at hv; exact hv))).2
        have e35 := E35 L (hpre ⟨12, .data⟩ (by simp) rfl)
        refine st_val HF rfl (by simp) rfl (w' := w') ?_ (hK w' hS)
        generalize fill VS L A0 = A at e35 ⊢
        simp [execOp, go_sem, i64_w, e35]
      · obtain rfl := Option.some.inj ho
        obtain rfl : .pointer (some ⟨bs ((k + 1) % l.length), 0, none⟩) = v := (Prod.mk.inj (Option.some.inj (show (some (some 37, .pointer (some ⟨bs ((k + 1) % l.length), 0, none⟩)) : Option (Option Tmp × Value)) = _ from by rw [← hVS] at hv; exact hv))).2
        have e36 := E36 L (hpre ⟨13, .data⟩ (by simp) rfl)
        have c1 := hrn.out w' hS
        refine st_val HF rfl (by simp) rfl (w' := w') ?_ (hK w' hS)
        generalize fill VS L A0 = A at e36 ⊢
        simp [execOp, go_sem, i64_w, e36, c1]
      · obtain rfl := Option.some.inj ho
        obtain rfl : .pointer (some ⟨bs ((k + 1) % l.length), 0, none⟩) = v := (Prod.mk.inj (Option.some.inj (show (some (some 38, .pointer (some ⟨bs ((k + 1) % l.length), 0, none⟩)) : Option (Option Tmp × Value)) = _ from by rw [← hVS] at hv; exact hv))).2
        have e37 := E37 L (hpre ⟨14, .data⟩ (by simp) rfl)
        refine st_val HF rfl (by simp) rfl (w' := w') ?_ (hK w' hS)
        generalize fill VS L A0 = A at e37 ⊢
        simp [execOp, go_sem, i64_w, e37]
      · obtain rfl := Option.some.inj ho
        obtain rfl : .pointer (some ⟨bs ((k + 1) % l.length), 2, none⟩) = v := (Prod.mk.inj (Option.some.inj (show (some (some 39, .pointer (some ⟨bs ((k + 1) % l.length), 2, none⟩)) : Option (Option Tmp × Value)) = _ from by rw [← hVS] at hv; exact hv))).2
        have e38 := E38 L (hpre ⟨15, .data⟩ (by simp) rfl)
        refine st_val HF rfl (by simp) rfl (w' := w') ?_ (hK w' hS)
        generalize fill VS L A0 = A at e38 ⊢
        simp [execOp, go_sem, i64_w, e38]
      · obtain rfl := Option.some.inj ho
        obtain rfl : .pointer (some ⟨bs i2, 0, none⟩) = v := (Prod.mk.inj (Option.some.inj (show (some (some 40, .pointer (some ⟨bs i2, 0, none⟩)) : Option (Option Tmp × Value)) = _ from by rw [← hVS] at hv; exact hv))).2
        have e39 := E39 L (hpre ⟨16, .data⟩ (by simp) rfl)
        have c1 := hnn.out w' hS
        refine st_val HF rfl (by simp) rfl (w' := w') ?_ (hK w' hS)
        generalize fill VS L A0 = A at e39 ⊢
        simp [execOp, go_sem, i64_w, e39, c1]
      · obtain rfl := Option.some.inj ho
        obtain rfl : .pointer (some ⟨bs i2, 0, none⟩) = v := (Prod.mk.inj (Option.some.inj (show (some (some 41, .pointer (some ⟨bs i2, 0, none⟩)) : Option (Option Tmp × Value)) = _ from by rw [← hVS] at hv; exact hv))).2
        have e40 := E40 L (hpre ⟨17, .data⟩ (by simp) rfl)
        refine st_val HF rfl (by simp) rfl (w' := w') ?_ (hK w' hS)
        generalize fill VS L A0 = A at e40 ⊢
        simp [execOp, go_sem, i64_w, e40]
      · obtain rfl := Option.some.inj ho
        obtain rfl : .pointer (some ⟨bs i2, 0, none⟩) = v := (Prod.mk.inj (Option.some.inj (show (some (some 42, .pointer (some ⟨bs i2, 0, none⟩)) : Option (Option Tmp × Value)) = _ from by rw [← hVS] at hv; exact hv))).2
        have e41 := E41 L (hpre ⟨18, .data⟩ (by simp) rfl)
        refine st_val HF rfl (by simp) rfl (w' := w') ?_ (hK w' hS)
        generalize fill VS L A0 = A at e41 ⊢
        simp [execOp, go_sem, i64_w, e41]
      · obtain rfl := Option.some.inj ho
        obtain rfl : .agg #[.int .i64 (nxt l ((k + 1) % l.length)).f0, .int .i64 (nxt l ((k + 1) % l.length)).f1] = v := (Prod.mk.inj (Option.some.inj (show (some (some 43, .agg #[.int .i64 (nxt l ((k + 1) % l.length)).f0, .int .i64 (nxt l ((k + 1) % l.length)).f1]) : Option (Option Tmp × Value)) = _ from by rw [← hVS] at hv; exact hv))).2
        have e42 := E42 L (hpre ⟨19, .data⟩ (by simp) rfl)
        have c1 := hmx.out w' hS
        have c2 := hmy.out w' hS
        refine st_val HF rfl (by simp) rfl (w' := w') ?_ (hK w' hS)
        generalize fill VS L A0 = A at e42 ⊢
        simp [execOp, go_sem, i64_w, e42, c1, c2]
      · obtain rfl := Option.some.inj ho
        obtain rfl : .tuple #[.int .i64 (turnS l k), .bool (turnB l k)] = v := (Prod.mk.inj (Option.some.inj (show (some (some 44, .tuple #[.int .i64 (turnS l k), .bool (turnB l k)]) : Option (Option Tmp × Value)) = _ from by rw [← hVS] at hv; exact hv))).2
        have e26 := E26 L (hpre ⟨3, .data⟩ (by simp) rfl)
        have e33 := E33 L (hpre ⟨10, .data⟩ (by simp) rfl)
        have e43 := E43 L (hpre ⟨20, .data⟩ (by simp) rfl)
        refine st_call HF rfl (by simp) rfl (w := w') (f := 60) (args := #[.agg #[.int .i64 (at_ l k).f0, .int .i64 (at_ l k).f1], .agg #[.int .i64 (nxt l k).f0, .int .i64 (nxt l k).f1], .agg #[.int .i64 (nxt l ((k + 1) % l.length)).f0, .int .i64 (nxt l ((k + 1) % l.length)).f1]]) (v := .tuple #[.int .i64 (turnS l k), .bool (turnB l k)]) ?_ ?_
        · generalize fill VS L A0 = A at e26 e33 e43 ⊢
          simp [execOp, resolve, go_sem, e26, e33, e43]
        · refine (impl_PointSide.calls 1 _ _ _ _ _ _ _ _ w' (sideI_f (at_ l k) (nxt l k) (nxt l ((k + 1) % l.length)))).mono ?_; rintro e w2 ⟨rfl, hb2⟩; exact ⟨rfl, hK w2 (hS.trans (hb2.mono hS.size))⟩
      · obtain rfl := Option.some.inj ho
        obtain rfl : .tuple #[.int .i64 (turnS l k), .bool (turnB l k)] = v := (Prod.mk.inj (Option.some.inj (show (some (some 22, .tuple #[.int .i64 (turnS l k), .bool (turnB l k)]) : Option (Option Tmp × Value)) = _ from by rw [← hVS] at hv; exact hv))).2
        have e44 := E44 L (hpre ⟨21, .data⟩ (by simp) rfl)
        refine st_val HF rfl (by simp) rfl (w' := w') ?_ (hK w' hS)
        generalize fill VS L A0 = A at e44 ⊢
        simp [execOp, go_sem, i64_w, e44]
      · obtain rfl := Option.some.inj ho
        obtain rfl : .int .i64 (turnS l k) = v := (Prod.mk.inj (Option.some.inj (show (some (some 45, .int .i64 (turnS l k)) : Option (Option Tmp × Value)) = _ from by rw [← hVS] at hv; exact hv))).2
        have e22 := E22 L (hpre ⟨22, .data⟩ (by simp) rfl)
        refine st_val HF rfl (by simp) rfl (w' := w') ?_ (hK w' hS)
        generalize fill VS L A0 = A at e22 ⊢
        simp [execOp, go_sem, i64_w, e22]
      · obtain rfl := Option.some.inj ho
        obtain rfl : .bool (turnB l k) = v := (Prod.mk.inj (Option.some.inj (show (some (some 46, .bool (turnB l k)) : Option (Option Tmp × Value)) = _ from by rw [← hVS] at hv; exact hv))).2
        have e22 := E22 L (hpre ⟨22, .data⟩ (by simp) rfl)
        refine st_val HF rfl (by simp) rfl (w' := w') ?_ (hK w' hS)
        generalize fill VS L A0 = A at e22 ⊢
        simp [execOp, go_sem, i64_w, e22]
      · obtain rfl := Option.some.inj ho
        obtain rfl : .int .i64 (turnS l k) = v := (Prod.mk.inj (Option.some.inj (show (some (some 7, .int .i64 (turnS l k)) : Option (Option Tmp × Value)) = _ from by rw [← hVS] at hv; exact hv))).2
        have e45 := E45 L (hpre ⟨23, .data⟩ (by simp) rfl)
        refine st_val HF rfl (by simp) rfl (w' := w') ?_ (hK w' hS)
        generalize fill VS L A0 = A at e45 ⊢
        simp [execOp, go_sem, i64_w, e45]
      · obtain rfl := Option.some.inj ho
        obtain rfl : .bool (turnB l k) = v := (Prod.mk.inj (Option.some.inj (show (some (some 8, .bool (turnB l k)) : Option (Option Tmp × Value)) = _ from by rw [← hVS] at hv; exact hv))).2
        have e46 := E46 L (hpre ⟨24, .data⟩ (by simp) rfl)
        refine st_val HF rfl (by simp) rfl (w' := w') ?_ (hK w' hS)
        generalize fill VS L A0 = A at e46 ⊢
        simp [execOp, go_sem, i64_w, e46]
    · intro w' hS'
      rw [← hVS, ← hA0]
      simp only [List.size_toArray, List.length_cons, List.length_nil, Nat.reduceAdd, List.replicate, fill, if_true, Act.put, List.setIfInBounds_toArray, List.set_cons_succ, List.set_cons_zero]
      clear HN E6 E22 E23 E24 E25 E26 E27 E28 E29 E30 E31 E32 E33 E34 E35 E36 E37 E38 E39 E40 E41 E42 E43 E44 E45 E46 hVS hA0
      have jc := (hS'.cell (p := ⟨w3.heap.size, 0, none⟩) (by dsimp only; omega)).trans hc
      have jr := (hS'.cell (p := ⟨w.heap.size, 0, none⟩) (by dsimp only; omega)).trans hr
      have jf := (hS'.frozen (p := ⟨w.heap.size, 0, none⟩) (by dsimp only; omega)).trans hf
      have HS := Aside0.mk hS'
      clear hS' hc hr hf
      cases hq : bent l k
      · have HQ := Aside0.mk hq
        have hqd : (turnS l k == wrap64 (-(sgI (areaS l l.length)))) = false := hq
        clear hq
        gi_wp2
        exact ⟨KeepsFrom.of_below HS.out, HS.out.mono hsW, fun i hi => by
          by_cases e : i = k
          · subst e; exact HQ.out
          · exact HPR.out i (by omega), hb.trans (HS.out.mono hsW)⟩
      · have HQ := Aside0.mk hq
        have hqd : (turnS l k == wrap64 (-(sgI (areaS l l.length)))) = true := hq
        clear hq
        gi_wp2
        exact ⟨(KeepsFrom.of_below HS.out).trans ((KeepsOthers.setCell _ _ _).from _), rfl, ⟨World.cell?_setCell_same _ _ _ jr, (hb0.trans ((hb.trans (HS.out.mono hsW)).mono (by omega))).setCell (p := ⟨w.heap.size, 0, none⟩) (Nat.le_refl _) _⟩, convR_no hk HQ.out⟩

end Go.Proofs.Ytiieoannejlgiaa.Ring
