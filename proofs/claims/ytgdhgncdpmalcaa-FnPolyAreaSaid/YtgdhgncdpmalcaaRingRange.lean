/- A range over a ring of corners: the iterator's contract, and the law of the loop. -/
import Derived.Test.YtgdhgncdpmalcaaRing
import Derived.RangeFuncNested
import Derived.RangeFuncBound
import Derived.RangeFuncCalls
import Derived.RangeFuncLeaves
import Derived.Shelf.Abstract
import Derived.Shelf.RegionOpen
import Derived.WalkKit
import Derived.OwnWalkIn
import Derived.TacticsInMore
import Derived.LoopNIn
import Derived.LoopIn
namespace Go.Proofs.Ytgdhgncdpmalcaa.Ring
open Go.RowKit Go.Shelf Go.Proofs.Ytgdhgncdpmalcaa.Q Go.Proofs.YtgdhgncdpmalcaaW.PrintWords Go.Proofs.YtgdhgncdpmalcaaW.PrintLast Go.Proofs.YtgdhgncdpmalcaaW.PrintMore
set_option linter.unusedVariables false
set_option linter.unusedSimpArgs false
attribute [local go_sem] Oper.semAt_some
set_option maxRecDepth 100000 in
set_option maxHeartbeats 1000000 in
theorem corners_in (l : Nat) (J : Nat → World → Prop) (Jx : World → Prop) (top : Nat) (bs : Nat → Nat) (ps : List Pt) (W : World) (hR : Ring W top bs ps) (htop : top ≤ W.heap.size)
    (hJa : ∀ W1 o, J 0 W1 → J 0 (W1.alloc o))
    (hY : ∀ k W1, k < ps.length → J k W1 → Below top W W1 → YieldAt Fence.wide 0 Try.prog l #[.pointer (some ⟨bs k, 0, none⟩)] W1 (fun e W' => (e = .returned (.bool true) ∧ J (k + 1) W' ∧ Below top W1 W') ∨ (e = .returned (.bool false) ∧ Jx W')))
    (h0 : J 0 W) :
    CallsIn Fence.wide 0 Try.prog 61 #[.agg #[.pointer (some ⟨bs 0, 0, none⟩), .int .i64 ps.length], .func (.yield l) #[] #[]] W fun e W' => (∃ v, e = .returned v) ∧ (J ps.length W' ∨ Jx W') := by
  have h3 := hR.pos
  have h12 := hR.most
  have H0 := Aside0.mk (hJa _ (.cells #[.pointer (some ⟨bs 0, 0, none⟩), .int .i64 ps.length] 54) h0)
  have HB := Aside0.mk ((Below.refl top W).alloc htop (.cells #[.pointer (some ⟨bs 0, 0, none⟩), .int .i64 ps.length] 54))
  have HR := Aside0.mk hR
  have HT := Aside0.mk htop
  clear hR htop h0
  refine callsIn_of_wp Try.func61 rfl trivial ?_ rfl
  simp only [Try.ntmps61, List.size_toArray, List.length_cons, List.length_nil, Nat.reduceAdd, Nat.reduceSub, Array.replicate_succ, Array.replicate_zero, List.push_toArray, List.append_toArray, List.nil_append, List.cons_append]
  gi_wp2
  gi_loopw [4, 9] (fun v4 v9 wr => ∃ k : Nat, k ≤ ps.length ∧ v9 = .int .i64 k ∧ v4 = .pointer (some ⟨bs (k % ps.length), 0, none⟩) ∧ Aside0 (J k wr) ∧ Aside0 (Below top W wr)) (fun _ v9 _ => ps.length - (intOf v9).toNat)
  case atStart => exact ⟨0, by omega, rfl, by rw [Nat.zero_mod], H0, HB⟩
  case round =>
    clear H0 HB
    obtain ⟨k, hk, rfl, rfl, HJ, HB⟩ := hrel
    by_cases hlt : k < ps.length
    · obtain ⟨fn, tmps, assign, body, hy, hRd⟩ := hY k wr hlt HJ.out HB.out
      rw [Nat.mod_eq_of_lt hlt]
      gi_wp2
      refine ⟨rfl, hRd.mono ?_⟩
      rintro e W' (⟨rfl, hJ', hb'⟩ | ⟨rfl, hx'⟩)
      · have hn := (HR.out.below (HB.out.trans hb')).next k hlt
        gi_wp2
        go_roundw
        case rel => exact ⟨k + 1, by omega, by go_num, rfl, ⟨hJ'⟩, ⟨HB.out.trans hb'⟩⟩
        case measure => simp [intOf]; omega
      · gi_wp2
        refine bodyPost_ret (results_none rfl _ _ _) rfl ?_
        exact ⟨⟨_, rfl⟩, .inr hx'⟩
    · obtain rfl : k = ps.length := by omega
      gi_wp2
      go_end0
      exact ⟨⟨_, rfl⟩, .inl HJ.out⟩
/-- How the body of a round may be left. -/
def ringPost (B top : Nat) (I : Nat → World → Prop) (Ix : Code → World → Prop) (k : Nat) (W : World) : Exit → Act → World → Prop
  | .normal, _, W' => KeepsFrom B W W' ∧ Below top W W' ∧ I k W'
  | .ret, _, W' => KeepsFrom B W W' ∧ Ix .ret W'
  | .exit id, _, W' => KeepsFrom B W W' ∧ Ix (.exit id) W'
  | .goto t, _, W' => KeepsFrom B W W' ∧ Ix (.goto t) W'
  | .panic _, _, _ => False
  | .outgrown, _, _ => False

theorem zip_one (t : Array Value) (p : Tmp) (v : Value) : ((#[p].zip #[v]).foldl (fun tmps (t, a) => tmps.setIfInBounds t a) t) = t.setIfInBounds p v := by simp
/-- 'for c := range o.corners { .. }' over a ring: the rounds come in the corners' order. -/
theorem range_ring {g : Operand} {p : Tmp} {assign body : Code} {Q : Exit → Act → World → Prop} {a : Act} {w : World} (top : Nat) (bs : Nat → Nat) (ps : List Pt) (hR : Ring w top bs ps) (htop : top ≤ w.heap.size)
    (hg : a.eval g = .func (.func 61) #[.agg #[.pointer (some ⟨bs 0, 0, none⟩), .int .i64 ps.length]] #[])
    (I : Nat → World → Prop) (Ix : Code → World → Prop) (hI : OwnFrom w.heap.size I) (hIx : OwnFrom w.heap.size Ix) (h0 : I 0 w) (a₁ : Nat → Act)
    (hassign : ∀ (l k : Nat) (W : World) (K : Act → World → Prop), K (a₁ k) W →
      assign.wpIn (Fence.wide.inRound l) 0 Try.prog (Exit.then K (fun _ _ _ => False)) { tmps := a.tmps.setIfInBounds p (.pointer (some ⟨bs k, 0, none⟩)), defers := [] } W)
    (hbody : ∀ (l k : Nat) (W : World), k < ps.length → I k W → Below top w W → body.wpIn (Fence.wide.inRound l) 0 Try.prog (ringPost w.heap.size top I Ix (k + 1) W) (a₁ k) W)
    (hdone : ∀ (D : Nat) (W : World), w.heap.size ≤ D → I ps.length W → W.heap[D]? = some (.deferred (some [])) → Q .normal { a with defers := { target := .collected D, args := #[] } :: a.defers } W)
    (hstop : ∀ (D : Nat) (c : Code) (W : World), w.heap.size ≤ D → Ix c W → W.heap[D]? = some (.deferred (some [])) → c.wpIn Fence.wide 0 Try.prog Q { a with defers := { target := .collected D, args := #[] } :: a.defers } W) :
    (Code.rangeFunc g #[p] assign body).wpIn Fence.wide 0 Try.prog Q a w := by
  refine wpIn_rangeFunc fun fn _ => ?_
  obtain ⟨rec, hrec⟩ : ∃ rec : LoopState → Option Code → Loop, rec = fun st pe => { state := st, pending := pe, fn, tmps := a.tmps, params := #[p], assign, body, defers := w.heap.size } := ⟨_, rfl⟩
  obtain ⟨V, hV⟩ : ∃ V, (w.alloc (.deferred (some []))).alloc (.loop (rec .ready none)) = V := ⟨_, rfl⟩
  have vl : V.heap[w.heap.size + 1]? = some (.loop (rec .ready none)) := by
    have := World.alloc_heap_new (w.alloc (.deferred (some []))) (.loop (rec .ready none)); rw [World.size_alloc, hV] at this; exact this
  have vd : V.heap[w.heap.size]? = some (.deferred (some [])) := by
    rw [← hV]; exact (Below.heap_alloc _ _ _ (by simp)).trans (World.alloc_heap_new w _)
  have vb : Below top w V := by rw [← hV]; exact ((Below.refl _ w).alloc htop _).alloc (by simp; omega) _
  have vs : V.heap.size = w.heap.size + 2 := by rw [← hV]; simp
  have vI : I 0 V := by rw [← hV]; exact hI.alloc _ (hI.alloc _ h0)
  refine ⟨w.heap.size + 1, [{ target := .collected w.heap.size, args := #[] }], V, { target := .fn (.func 61) #[], args := #[.agg #[.pointer (some ⟨bs 0, 0, none⟩), .int .i64 ps.length], .func (.yield (w.heap.size + 1)) #[] #[]] }, V, 61,
    #[.agg #[.pointer (some ⟨bs 0, 0, none⟩), .int .i64 ps.length], .func (.yield (w.heap.size + 1)) #[] #[]], V, ?_, ?_, fun _ _ => trivial, ?_, ?_, ?_⟩
  · rw [← hV, hrec]; exact run_enterLoop_outer _ _ _ _ _
  · simp only [resolve, hg]; simp [go_sem]
  · simp [invoke, go_sem]
  · intro h; simp [Fence.wide] at h
  · have hl : ∀ {W : World} {o : Obj} {r : Nat}, W.heap[r]? = some o → r < W.heap.size := fun h => (Array.getElem?_eq_some_iff.1 h).1
    refine (corners_in (w.heap.size + 1) (fun k W => I k W ∧ W.heap[w.heap.size + 1]? = some (.loop (rec .ready none)) ∧ W.heap[w.heap.size]? = some (.deferred (some [])))
      (fun W => ∃ c, Ix c W ∧ W.heap[w.heap.size + 1]? = some (.loop (rec .done (some c))) ∧ W.heap[w.heap.size]? = some (.deferred (some [])))
      top bs ps V (hR.below vb) (by omega) ?_ ?_ ⟨vI, vl, vd⟩).mono ?_
    · rintro W1 o ⟨i1, l1, d1⟩
      exact ⟨hI.alloc _ i1, (Below.heap_alloc _ _ _ (hl l1)).trans l1, (Below.heap_alloc _ _ _ (hl d1)).trans d1⟩
    · rintro k W hk ⟨i1, l1, d1⟩ hb
      have hy := run_yield (P := Try.prog) (args := #[.pointer (some ⟨bs k, 0, none⟩)]) l1 (by rw [hrec]; rfl)
      rw [hrec] at hy
      dsimp only at hy
      rw [zip_one] at hy
      refine ⟨fn, _, assign, body, hy, roundIn_of_wpIn trivial (hassign _ k W _ ?_)⟩
      refine ⟨_, run_beginRound l1 (by rw [hrec]), ?_⟩
      obtain ⟨W2, hW2⟩ : ∃ W2, W.putObj (w.heap.size + 1) (.loop { rec .ready none with state := .busy }) = W2 := ⟨_, rfl⟩
      have l2 : W2.heap[w.heap.size + 1]? = some (.loop { rec .ready none with state := .busy }) := by rw [← hW2]; exact World.putObj_heap_same (hl l1)
      have d2 : W2.heap[w.heap.size]? = some (.deferred (some [])) := by rw [← hW2]; exact (World.putObj_heap_other (by omega)).trans d1
      have i2 : I k W2 := by rw [← hW2]; exact hI.putObj _ i1 (by omega) l1 rfl
      have b2 : Below top W W2 := by rw [← hW2]; exact belowK_b (w := w) htop _ _ _ _ (by omega) l1 rfl rfl
      rw [hW2]
      refine wpIn_mono (hbody _ k W2 hk i2 (vb.trans (hb.trans b2))) ?_
      have fin : ∀ (jump : Option Code) (W3 : World), KeepsFrom w.heap.size W2 W3 → ∃ W4, (Instr.endRound (w.heap.size + 1) jump).run Try.prog W3 = .ok (.bool jump.isNone) W4 ∧
          W4 = W3.putObj (w.heap.size + 1) (.loop (rec (if jump.isNone then .ready else .done) jump)) ∧ W3.heap[w.heap.size + 1]? = some (.loop { rec .ready none with state := .busy }) ∧
          W4.heap[w.heap.size + 1]? = some (.loop (rec (if jump.isNone then .ready else .done) jump)) ∧ W4.heap[w.heap.size]? = some (.deferred (some [])) := by
        intro jump W3 hk3
        have l3 := hk3.same _ _ (by omega) l2 rfl
        have d3 := hk3.same _ _ (Nat.le_refl _) d2 rfl
        have e3 := run_endRound (P := Try.prog) jump l3
        rw [hrec] at e3 l3 ⊢
        exact ⟨_, e3, rfl, l3, World.putObj_heap_same (hl l3), (World.putObj_heap_other (by omega)).trans d3⟩
      intro e a3 W3 hp
      cases e with
      | normal =>
        obtain ⟨hk3, hb3, hi3⟩ := hp
        obtain ⟨W4, hr, rfl, l3, l4, d4⟩ := fin none W3 hk3
        exact ⟨_, _, hr, .inl ⟨rfl, ⟨hI.putObj _ hi3 (by omega) l3 rfl, l4, d4⟩, b2.trans (hb3.trans (belowK_b (w := w) htop _ _ _ _ (by omega) l3 rfl rfl))⟩⟩
      | ret =>
        obtain ⟨hk3, hi3⟩ := hp
        obtain ⟨W4, hr, rfl, l3, l4, d4⟩ := fin (some .ret) W3 hk3
        exact ⟨_, _, hr, .inr ⟨rfl, .ret, hIx.putObj _ hi3 (by omega) l3 rfl, l4, d4⟩⟩
      | exit id =>
        obtain ⟨hk3, hi3⟩ := hp
        obtain ⟨W4, hr, rfl, l3, l4, d4⟩ := fin (some (.exit id)) W3 hk3
        exact ⟨_, _, hr, .inr ⟨rfl, .exit id, hIx.putObj _ hi3 (by omega) l3 rfl, l4, d4⟩⟩
      | goto t =>
        obtain ⟨hk3, hi3⟩ := hp
        obtain ⟨W4, hr, rfl, l3, l4, d4⟩ := fin (some (.goto t)) W3 hk3
        exact ⟨_, _, hr, .inr ⟨rfl, .goto t, hIx.putObj _ hi3 (by omega) l3 rfl, l4, d4⟩⟩
      | panic ch => exact hp.elim
      | outgrown => exact hp.elim
    · rintro e W2 ⟨⟨v, rfl⟩, (⟨hi, l2, d2⟩ | ⟨c, hi, l2, d2⟩)⟩
      · have er := run_endLoop (P := Try.prog) l2 (by rw [hrec]; simp)
        rw [hrec] at er
        exact ⟨none, _, er, hdone _ _ (Nat.le_refl _) (hI.putObj _ hi (by omega) l2 rfl) ((World.putObj_heap_other (by omega)).trans d2)⟩
      · have er := run_endLoop (P := Try.prog) l2 (by rw [hrec]; simp)
        rw [hrec] at er
        exact ⟨some c, _, er, hstop _ c _ (Nat.le_refl _) (hIx.putObj _ hi (by omega) l2 rfl) ((World.putObj_heap_other (by omega)).trans d2)⟩

end Go.Proofs.Ytgdhgncdpmalcaa.Ring
