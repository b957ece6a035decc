/- The least node with which each node of a net is linked, as the program finds it: the walk. -/
import Derived.Test.YtbbpianfoimejaaRepW
namespace Go.Proofs.Ytbbpianfoimejaa.LinkW
open Go.RowKit Go.WideMaps Go.Maps Go.Proofs.Ytbbpianfoimejaa.Q Go.Proofs.Ytbbpianfoimejaa.Pure Go.Proofs.YtbbpianfoimejaaW.PrintWords Go.Proofs.YtbbpianfoimejaaW.PrintLast Go.Proofs.YtbbpianfoimejaaW.PrintMore
set_option linter.unusedVariables false
set_option linter.unusedSimpArgs false
/-! the closed form -/
def vis (s : Int) : List Int → List Int → List Int → Option (List Int × List Int)
  | [], o, op => some (o, op)
  | x :: xs, o, op => if 0 ≤ x ∧ x < (o.length : Int) then (if rd o x < 0 then (if op.length < 1000 then vis s xs (o.set x.toNat s) (op ++ [x]) else none) else vis s xs o op) else none
def fill (ds : List (Int × Int)) (s : Int) : Nat → List Int → List Int → Option (List Int)
  | 0, _, _ => none
  | k + 1, o, op => match op.getLast? with
    | none => some o
    | some v => if 0 ≤ v ∧ v < (o.length : Int) then (vis s (adjD ds v) o op.dropLast).bind fun p => fill ds s k p.1 p.2 else none
def outer (ds : List (Int × Int)) (n K : Nat) : Nat → Nat → List Int → Option (List Int)
  | 0, _, _ => none
  | k + 1, s, o => if s < n then (if rd o (s : Int) ≥ 0 then outer ds n K k (s + 1) o else (fill ds s K (o.set s (s : Int)) [(s : Int)]).bind fun o' => outer ds n K k (s + 1) o') else some o
/-! the world -/
structure Wd (WN W : World) (g : Nat) (o : List Int) : Prop where
  row : W.heap[g]? = some (.cells (nums .i64 o).toArray 3 (0, 0))
  be : Below WN.heap.size WN W
  le : WN.heap.size ≤ g
theorem Wd.cell {WN W : World} {g : Nat} {o : List Int} (h : Wd WN W g o) (x : Int) (h0 : 0 ≤ x) (h1 : x < (o.length : Int)) : W.cell? ⟨g, x.toNat, none⟩ = some (.int .i64 (rd o x)) := by
  refine (blk_cell h.row x.toNat).trans ?_
  have hl : x.toNat < o.length := by omega
  simp [nums, Go.Proofs.YtbbpianfoimejaaW.PrintWords.rd, List.getElem?_eq_getElem hl, hl]
theorem Wd.cellN {WN W : World} {g : Nat} {o : List Int} (h : Wd WN W g o) (s : Nat) (h1 : s < o.length) : W.cell? ⟨g, s, none⟩ = some (.int .i64 (Go.Proofs.YtbbpianfoimejaaW.PrintWords.rd o (s : Int))) := by
  have := h.cell (s : Int) (by omega) (by omega)
  rwa [Int.toNat_natCast] at this
theorem Wd.frozen {WN W : World} {g : Nat} {o : List Int} (h : Wd WN W g o) (i : Nat) : W.frozen? ⟨g, i, none⟩ = false := blk_frozen h.row i
theorem Wd.set {WN W : World} {g : Nat} {o : List Int} (h : Wd WN W g o) (i : Nat) (v : Int) : Wd WN (W.setCell ⟨g, i, none⟩ (.int .i64 v)) g (o.set i v) :=
  ⟨blk_put h.row i _ (by simp [nums, List.map_set]), h.be.setCell (p := ⟨g, i, none⟩) h.le _, h.le⟩
theorem Wd.alloc {WN W : World} {g : Nat} {o : List Int} (h : Wd WN W g o) (ob : Obj) : Wd WN (W.alloc ob) g o :=
  ⟨(heap_alloc_old W ob (blk_lt h.row)).trans h.row, h.be.alloc h.be.size _, h.le⟩
theorem set_grown (W : World) (g i : Nat) (u : Value) : W.grownBy (W.setCell ⟨g, i, none⟩ u) (some g) := ⟨rfl, rfl, rfl, by simp, fun k hk hne => Below.heap_setCell W ⟨g, i, none⟩ u k (fun e => hne (by rw [e]))⟩
theorem Wd.grown {WN W W1 : World} {g : Nat} {o : List Int} {v : Value} {n : Nat} {xs : List Value} (h : Wd WN W g o) (hg : W.grownBy W1 v.ownBlock) (ho : W.ownsRow (g + 1) 3 1 v n xs) : Wd WN W1 g o := by
  have hl := h.le
  exact ⟨(hg.block g (blk_lt h.row) (fun e => by have := (ho.lt g e.symm).1; omega)).trans h.row, h.be.grown hg h.be.size (fun j hj => by have := (ho.lt j hj).1; omega), hl⟩
/-- The last of a row, and the row without it. -/
theorem own_last {W : World} {base : Nat} {v : Value} {op : List Int} {x : Int} (h : W.ownsRow base 3 1 v (op ++ [x]).length (nums .i64 (op ++ [x]))) :
    ∃ b cap, v = .slice (some ⟨b, 0, none⟩) (op.length + 1) cap ∧ W.cell? ⟨b, op.length, none⟩ = some (.int .i64 x) ∧ op.length + 1 ≤ cap ∧ W.ownsRow base 3 1 (.slice (some ⟨b, 0, none⟩) op.length cap) op.length (nums .i64 op) := by
  rcases h.2 with ⟨_, q⟩ | ⟨b, cap, cur, rfl, hb, hg, h1, h2, h3, h4⟩
  · simp at q
  · have hl : (op ++ [x]).length = op.length + 1 := by simp
    rw [hl] at h h1 h4 ⊢
    refine ⟨b, cap, rfl, ?_, h1, ?_, .inr ⟨b, cap, cur, rfl, hb, hg, by omega, h2, h3, ?_⟩⟩
    · rw [h.cellAt op.length (by omega)]
      simp [nums]
    · simp [nums]
    · have e : cur.toList.take (op.length * 1) = (cur.toList.take ((op.length + 1) * 1)).take (op.length * 1) := by rw [List.take_take]; congr 1; omega
      rw [e, h4]
      simp [nums]
theorem new_cell0 (W : World) (v : Value) (t : TypeId) : (W.alloc (.cells #[v] t)).cell? ⟨W.heap.size, 0, none⟩ = some v := by simp
theorem row_own {W : World} {g base m : Nat} {o : List Int} (h : W.heap[g]? = some (.cells (nums .i64 o).toArray 3 (0, 0))) (hl : o.length = m) (hb : base ≤ g) (hm : m ≤ 6) : W.ownsRow base 3 1 (.slice (some ⟨g, 0, none⟩) m m) m (encs (Value.int .i64) o) :=
  ⟨by simp [encs, hl], .inr ⟨g, m, _, rfl, hb, h, Nat.le_refl _, by unfold maxLen; omega, by simp [nums, hl], by simp [nums, encs]; rw [← hl, ← List.map_take, List.take_length]⟩⟩
theorem nil_or_last (op : List Int) : op = [] ∨ ∃ (op' : List Int) (v : Int), op = op' ++ [v] := by
  rcases List.eq_nil_or_concat op with h | ⟨a, b, h⟩
  · exact .inl h
  · exact .inr ⟨a, b, by simpa using h⟩
theorem own_zero {W : World} {base : Nat} {v : Value} {xs : List Value} (h : W.ownsRow base 3 1 v ([] : List Int).length xs) : ∃ A c, v = .slice A 0 c := by
  rcases h.2 with ⟨rfl, _⟩ | ⟨b, cap, cur, rfl, _⟩
  · exact ⟨_, _, rfl⟩
  · exact ⟨_, _, rfl⟩
theorem own_kept {W W1 : World} {g : Nat} {v : Value} {n : Nat} {xs : List Value} (h : W.ownsRow (g + 1) 3 1 v n xs) (hg : W.grownBy W1 (some g)) : W1.ownsRow (g + 1) 3 1 v n xs :=
  h.kept hg (.inr fun e => by have := (h.lt g e).1; omega)
theorem own_app {W : World} {base : Nat} {v : Value} {op : List Int} {x : Int} (h : W.ownsRow base 3 1 v (op.length + 1) (nums .i64 op ++ [.int .i64 x])) : W.ownsRow base 3 1 v (op ++ [x]).length (nums .i64 (op ++ [x])) := by
  simpa [nums_append, nums] using h
/-- A look-up of the neighbours, in any later world. -/
theorem nb_look {H : Type} {WN : World} {B n : Nat} {D : DataW H} {ds : List (Int × Int)} (ho : WN.ownsGroups (H := H) Try.prog 3 (B + 1) 3 .i64 B n D) (hnb : NB D ds) (hn : n < maxLen) (a : Int) (ha : (Lit.int .i64 a).wf = true) :
    ∃ A c, (∀ W, Below WN.heap.size WN W → (Instr.lookup 71 (.map (some B)) (.int .i64 a) false).run Try.prog W = .ok (.slice A (adjD ds a).length c) W) ∧ (adjD ds a).length ≤ n ∧
      ∀ j : Nat, j < (adjD ds a).length → ∃ ad, A = some ad ∧ ∀ W, Below WN.heap.size WN W → W.cell? (ad.add j) = some (.int .i64 ((adjD ds a).getD j 0)) := by
  have hk : keyOf Try.prog 3 (.int .i64 a) = some (.int .i64 a) := keyOf_int_mk Try.underlying3 ha
  obtain ⟨v, zs, hrun, hat, hoi, hzl, _⟩ := ho.at keyI Try.underlying71 (zeroS _) hn hk
  obtain rfl := hnb.read ha hoi hat
  obtain ⟨es, clock, hb, F, _⟩ := ho
  have hB : B < WN.heap.size := (Array.getElem?_eq_some_iff.1 hb).1
  have hall : ∀ W, Below WN.heap.size WN W → (Instr.lookup 71 (.map (some B)) (.int .i64 a) false).run Try.prog W = .ok v W := fun W hW =>
    look_same hb ((hW.block B hB).trans hb) F.keys ha hrun
  have hown := hoi.1
  rcases hoi.1.2 with ⟨rfl, h0⟩ | ⟨g, cap, cur, rfl, _⟩
  · rw [h0]
    exact ⟨none, 0, hall, by omega, fun j hj => by omega⟩
  · refine ⟨some ⟨g, 0, none⟩, cap, hall, hzl, fun j hj => ⟨_, rfl, fun W hW => ?_⟩⟩
    have hc := World.ownsRow.cells hown (g := g) rfl j (.int .i64 ((adjD ds a).getD j 0)) (by simp [List.getElem?_eq_getElem hj, List.getD])
    exact (hW.cell (World.block_lt_of_cell? WN _ hc)).trans hc
set_option maxHeartbeats 8000000 in
set_option maxRecDepth 100000 in
theorem least_calls (m K0 k0 : Nat) (A1 : Option Addr) (c1 : Nat) (l : List Run) (w : World) (hr1 : Kd.C k46 w A1 l.length l) (hc1 : l.length ≤ c1) (hv : nvB (m : Int) l = true) (r : List Int) (h : outer (dirs l) m K0 k0 0 (List.replicate m (-1)) = some r) :
    Calls Try.prog 48 #[.int .i64 m, .slice A1 l.length c1] w fun e w' => ∃ v1_ : Value, e = .returned v1_ ∧ Kd.R (Kd.int .i64) 3 w' w.heap.size (fun _ => True) v1_ r ∧ Below w.heap.size w w' := by
  obtain ⟨i0, hi0, hz0, hz1, hz2⟩ := info_parts info_int
  have hn := nvB_n hv
  have hwf : ∀ r ∈ l, (Lit.int .i64 r.f0).wf = true ∧ (Lit.int .i64 r.f1).wf = true := fun r hr => by
    have := nvB_VL hv r hr
    exact ⟨WalkArith.wf_i64 (by omega), WalkArith.wf_i64 (by omega)⟩
  have HN := Aside0.mk (neigh_calls (H := Unit) A1 c1 l w hr1 hc1 hn.2.2 hwf)
  have HH := Aside0.mk h
  have hm2 : 2 ≤ m ∧ m ≤ 6 := by omega
  clear hr1 hc1 hwf h
  go_enter Try.func48, Try.ntmps48
  go_upto_region 2 with (go_at_call 52; (refine HN.out.mono ?_); rintro e WN ⟨rfl, ⟨⟨D, hNB⟩, hsz⟩, hbN⟩)
  clear HN
  go_upto_region 3 with (go_at_call 53; (refine (repeat_calls m _ hm2 _ (new_cell0 WN _ _)).mono ?_); rintro e WR ⟨g, rfl, hrow, hgl, hbR⟩)
  have hlN := Aside0.mk (show 2 * l.length < maxLen by unfold maxLen; omega)
  have HNB' := Aside0.mk (And.intro hNB hsz)
  have HBN := Aside0.mk hbN
  have hgN : WN.heap.size ≤ g := Nat.le_trans (by simp) hgl
  have HW0 : Wd WN WR g (List.replicate m (-1)) := ⟨by rw [hrow]; simp [nums], ((Below.refl _ _).alloc (Nat.le_refl _) _).trans (hbR.mono (by simp)), hgN⟩
  have HW00 := Aside0.mk HW0
  have HGN := Aside0.mk hgN
  clear hrow hbR HW0 hNB hsz hbN hv hgl hgN
  go_wp2
  go_loopg [18] k0 (fun kq v18 wr => ∃ (s : Nat) (o : List Int), v18 = .int .i64 s ∧ s ≤ m ∧ o.length = m ∧ Aside0 (outer (dirs l) m K0 kq s o = some r) ∧ Aside0 (kq ≤ k0) ∧ Aside0 (Wd WN wr g o))
  case atStart => exact ⟨0, _, rfl, by omega, by simp, HH, ⟨Nat.le_refl _⟩, HW00⟩
  case round =>
    clear HW00 HH
    obtain ⟨s, o, rfl, hs, hol, HA, HK, HW⟩ := hrel
    cases gk with
    | zero => exact absurd HA.out (by simp [outer])
    | succ k1 =>
      have H := HA.out
      clear HA
      rw [outer] at H
      by_cases hsm : s < m
      · rw [if_pos hsm] at H
        have q1 := eq_true (show (s : Int) < (m : Int) by omega)
        have q0 := eq_true (show (0 : Int) ≤ (s : Int) by omega)
        have e9 := Aside0.mk (show wrap64 ((s : Int) + 1) = ((s + 1 : Nat) : Int) by rw [nw64 (by omega) (by omega)]; omega)
        have x0 := HW.out.cellN s (by rw [hol]; exact hsm)
        by_cases c : Go.Proofs.YtbbpianfoimejaaW.PrintWords.rd o (s : Int) ≥ 0
        · rw [if_pos c] at H
          have c1 : decide (0 ≤ Go.Proofs.YtbbpianfoimejaaW.PrintWords.rd o (s : Int)) = true := decide_eq_true c
          replace H := Aside0.mk H
          clear c
          go_wp2
          go_roundg k1
          case measure => have := HK.out; omega
          case rel => exact ⟨s + 1, o, by first | rw [e9.out] | rfl, by omega, hol, H, ⟨by have := HK.out; omega⟩, HW⟩
        · rw [if_neg c] at H
          have c1 : decide (0 ≤ Go.Proofs.YtbbpianfoimejaaW.PrintWords.rd o (s : Int)) = false := decide_eq_false c
          obtain ⟨o1, hf, H⟩ := Option.bind_eq_some_iff.1 H
          replace H := Aside0.mk H
          have HF := Aside0.mk hf
          clear c hf
          have f0 := HW.out.frozen s
          go_upto_region 8 with (fail)
          have hW2 := HW.out.set s (s : Int)
          clear x0 f0 HW c1
          generalize wr.setCell ⟨g, s, none⟩ (.int .i64 (s : Int)) = w2 at hW2 ⊢
          have HW3 := Aside0.mk (hW2.alloc (.cells #[.int .i64 (s : Int)] 3))
          have HO3 := Aside0.mk (World.ownsRow_lit (base := g + 1) (e := 3) (size := 1) w2 #[.int .i64 (s : Int)] 1 (Nat.succ_le_of_lt (blk_lt hW2.row)) (by unfold maxLen; omega) rfl)
          have hol2 : (o.set s (s : Int)).length = m := by rw [List.length_set]; exact hol
          clear hW2 hol
          go_wp2
          go_loopg [8] K0 (fun kq v8 wr2 => ∃ (o2 op : List Int), o2.length = m ∧ op.length ≤ 1000 ∧ Aside0 (fill (dirs l) (s : Int) kq o2 op = some o1) ∧ Aside0 (kq ≤ K0) ∧ Aside0 (Wd WN wr2 g o2) ∧ Aside0 (wr2.ownsRow (g + 1) 3 1 v8 op.length (nums .i64 op)))
          case atStart => exact ⟨_, [(s : Int)], hol2, by simp, HF, ⟨Nat.le_refl _⟩, HW3, HO3⟩
          case round =>
            clear HW3 HO3 HF hol2
            obtain ⟨o2, op, hol, hop, HF, HK2, HW, HO⟩ := hrel
            cases gk with
            | zero => exact absurd HF.out (by simp [fill])
            | succ k2 =>
              have hf := HF.out
              clear HF
              rw [fill] at hf
              rcases nil_or_last op with rfl | ⟨op, v, rfl⟩
              · obtain rfl := Option.some.inj hf
                obtain ⟨A, c, rfl⟩ := own_zero HO.out
                clear hf
                go_wp2
                go_roundg k1
                case measure => have := HK.out; omega
                case rel => exact ⟨s + 1, o2, by first | rw [e9.out] | rfl, by omega, hol, H, ⟨by have := HK.out; omega⟩, HW⟩
              · rw [List.getLast?_append, List.getLast?_singleton, List.dropLast_concat] at hf
                dsimp only [Option.or] at hf
                by_cases hv : 0 ≤ v ∧ v < (o2.length : Int)
                · rw [if_pos hv] at hf
                  obtain ⟨⟨p1, p2⟩, hvis, hf⟩ := Option.bind_eq_some_iff.1 hf
                  have HV := Aside0.mk hvis
                  have HF := Aside0.mk hf
                  obtain ⟨b, cap, rfl, xb, hcap, hO⟩ := own_last HO.out
                  have HO2 := Aside0.mk hO
                  clear HO hvis hf hO
                  have hw64 : (Lit.int .i64 v).wf = true := WalkArith.wf_i64 (by omega)
                  obtain ⟨⟨hNB0, hNB1⟩, hNB2⟩ := HNB'.out
                  obtain ⟨A, c, hlk, hln, hcell⟩ := nb_look hNB0 hNB1 hlN.out v hw64
                  have hrun := hlk wr HW.out.be
                  generalize adjD (dirs l) v = nb at hrun hln hcell HV
                  have HC := Aside0.mk hcell
                  rw [List.length_append, List.length_singleton] at hop
                  clear hNB0 hNB1 hNB2 hlk hcell hw64
                  have e8 : wrap64 (((op.length + 1 : Nat) : Int) - 1) = (op.length : Int) := by rw [nw64 (by omega) (by omega)]; omega
                  go_wp2
                  clear hrun xb e8
                  go_loopw [8, 50] (fun v8 v50 wr => ∃ (j : Nat) (o3 op3 : List Int), v50 = .int .i64 j ∧ j ≤ nb.length ∧ o3.length = m ∧ op3.length ≤ 1000 ∧ Aside0 (vis (s : Int) (nb.drop j) o3 op3 = some (p1, p2)) ∧ Aside0 (Wd WN wr g o3) ∧ Aside0 (wr.ownsRow (g + 1) 3 1 v8 op3.length (nums .i64 op3))) (fun _ v50 _ => nb.length - (intOf v50).toNat)
                  case atStart => exact ⟨0, o2, op, rfl, Nat.zero_le _, hol, by omega, by rw [List.drop_zero]; exact HV, HW, HO2⟩
                  case round =>
                    clear HV HW HO2 hol hop hv
                    obtain ⟨j, o3, op3, rfl, hj, hol, hop, HV, HW, HO⟩ := hrel
                    by_cases hlt : j < nb.length
                    · have hvv := HV.out
                      clear HV
                      rw [List.drop_eq_getElem_cons hlt, vis] at hvv
                      obtain ⟨ad, rfl, hx⟩ := HC.out j hlt
                      have x0 := hx wr HW.out.be
                      rw [show nb.getD j 0 = nb[j] by simp [hlt]] at x0
                      generalize nb[j] = x at hvv x0
                      clear hx
                      have q1 := eq_true (show (j : Int) < (nb.length : Int) by omega)
                      have q0 := eq_true (show (0 : Int) ≤ (j : Int) by omega)
                      have e7 := Aside0.mk (show wrap64 ((j : Int) + 1) = ((j + 1 : Nat) : Int) by rw [nw64 (by omega) (by omega)]; omega)
                      by_cases hxr : 0 ≤ x ∧ x < (o3.length : Int)
                      · rw [if_pos hxr] at hvv
                        have y0 := HW.out.cell x hxr.1 hxr.2
                        have r0 := eq_true hxr.1
                        have r1 := eq_true (show x < (m : Int) by rw [← hol]; exact hxr.2)
                        by_cases c : Go.Proofs.YtbbpianfoimejaaW.PrintWords.rd o3 x < 0
                        · rw [if_pos c] at hvv
                          have c2 := decide_eq_true c
                          by_cases hop2 : op3.length < 1000
                          · rw [if_pos hop2] at hvv
                            have HV := Aside0.mk hvv
                            have f0 := HW.out.frozen x.toNat
                            clear hvv c
                            go_upto_region 17 with (fail)
                            have hW5 := HW.out.set x.toNat (s : Int)
                            have hO5 := own_kept HO.out (set_grown wr g x.toNat (.int .i64 (s : Int)))
                            have hol5 : (o3.set x.toNat (s : Int)).length = m := by rw [List.length_set]; exact hol
                            clear x0 y0 f0 HW HO hol r0 r1 c2
                            generalize wr.setCell ⟨g, x.toNat, none⟩ (.int .i64 (s : Int)) = w5 at hW5 hO5 ⊢
                            have HW5 := Aside0.mk hW5
                            have HO5 := Aside0.mk hO5
                            clear hW5 hO5
                            go_wp2_with (first | (at_builtin; refine wpList_append_own_at _ (by rfl) _ _ 31 (by rfl) (g + 1) 3 i0 (.int .i64 0) 1 8 Try.underlying31 hi0 hz0 hz1 hz2 rfl (by decide) u8 op3.length (nums .i64 op3) (by rfl) (HO5.out.alloc _) ⟨w5.heap.size, 0, none⟩ 1 1 [.int .i64 x] (by rfl) rfl (cell_one_new _ _ _) (by simp [Value.oneCell']) (by unfold maxLen; omega) (by omega) (Nat.le_trans (Nat.succ_le_of_lt (blk_lt HW5.out.row)) (by simp)) ?_; intro v' w1 hown' hgrow hnil hloc; have HWn := Aside0.mk ((HW5.out.alloc _).grown hgrow (HO5.out.alloc _)); have HOn := Aside0.mk (own_app hown'); clear hown' hgrow hnil hloc))
                            go_roundw
                            case rel => exact ⟨j + 1, _, _, by first | rw [e7.out] | rfl, by omega, hol5, by rw [List.length_append, List.length_singleton]; omega, HV, HWn, HOn⟩
                            case measure => first | exact meas_up2 hlt | exact meas_up hlt e7.out
                          · rw [if_neg hop2] at hvv
                            exact absurd hvv (by simp)
                        · rw [if_neg c] at hvv
                          have c2 := decide_eq_false c
                          have HV := Aside0.mk hvv
                          clear hvv c
                          go_wp2
                          go_roundw
                          case rel => exact ⟨j + 1, o3, op3, by first | rw [e7.out] | rfl, by omega, hol, hop, HV, HW, HO⟩
                          case measure => first | exact meas_up2 hlt | exact meas_up hlt e7.out
                      · rw [if_neg hxr] at hvv
                        exact absurd hvv (by simp)
                    · obtain rfl : j = nb.length := by omega
                      have hvv := HV.out
                      rw [List.drop_length, vis] at hvv
                      obtain ⟨rfl, rfl⟩ : o3 = p1 ∧ op3 = p2 := by simpa using hvv
                      clear hvv HV
                      have q1 := eq_false (show ¬ (nb.length : Int) < (nb.length : Int) by omega)
                      go_wp2
                      go_roundg k2
                      case measure => have := HK2.out; omega
                      case rel => exact ⟨o3, op3, hol, hop, HF, ⟨by have := HK2.out; omega⟩, HW, HO⟩
                · rw [if_neg hv] at hf
                  exact absurd hf (by simp)
      · rw [if_neg hsm] at H
        obtain rfl := Option.some.inj H
        have q1 := eq_false (show ¬ (s : Int) < (m : Int) by omega)
        go_wp2
        go_ret
        refine ⟨_, rfl, Kd.R_of_own (α := Int) (by rw [hol]; exact row_own HW.out.row hol (by have := HBN.out.size; have := HW.out.le; omega) (by omega)) (fun _ _ => trivial), HBN.out.trans (HW.out.be.mono HBN.out.size)⟩
end Go.Proofs.Ytbbpianfoimejaa.LinkW
