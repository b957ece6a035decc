/- Corners linked to a ring in memory: what impl.outlineOf makes of a list of points. -/
import Derived.Test.YtgdhgncdpmalcaaQ14
import Derived.LoopIn
namespace Go.Proofs.Ytgdhgncdpmalcaa.Ring
open Go.RowKit Go.Proofs.Ytgdhgncdpmalcaa.Q Go.Proofs.YtgdhgncdpmalcaaW.PrintWords Go.Proofs.YtgdhgncdpmalcaaW.PrintLast Go.Proofs.YtgdhgncdpmalcaaW.PrintMore
set_option linter.unusedVariables false
set_option linter.unusedSimpArgs false

abbrev Pt := S32
def at_ (l : List Pt) (j : Nat) : Pt := l.getD j z32
def nxt (l : List Pt) (j : Nat) : Pt := at_ l ((j + 1) % l.length)

/-- A block of cells that nobody has marked. -/
def Plain (w : World) (b : Nat) : Prop := ∃ cs t, w.heap[b]? = some (.cells cs t (0, 0))
theorem Plain.setCell {w : World} {b : Nat} (h : Plain w b) (p : Addr) (v : Value) : Plain (w.setCell p v) b := by
  obtain ⟨cs, t, h⟩ := h
  by_cases e : b = p.block
  · subst e
    have hlt := (Array.getElem?_eq_some_iff.1 h).1
    refine ⟨if p.spot.isSome then cs else cs.setIfInBounds p.off v, t, ?_⟩
    simp [World.setCell, Array.getElem?_modify, h]
  · exact ⟨cs, t, (Below.heap_setCell w p v b e).trans h⟩
theorem Plain.alloc {w : World} {b : Nat} (h : Plain w b) (o : Obj) : Plain (w.alloc o) b := by
  obtain ⟨cs, t, h⟩ := h
  exact ⟨cs, t, (Below.heap_alloc w o b (Array.getElem?_eq_some_iff.1 h).1).trans h⟩
theorem Plain.new (w : World) (cs : Array Value) (t : TypeId) : Plain (w.alloc (.cells cs t)) w.heap.size := ⟨cs, t, by show (w.heap.push _)[w.heap.size]? = _; simp⟩
theorem Plain.below {w w1 : World} {top b : Nat} (h : Plain w b) (hb : Below top w w1) (hl : b < top) : Plain w1 b := by
  obtain ⟨cs, t, h⟩ := h
  exact ⟨cs, t, (hb.block b hl).trans h⟩

/-- Corner j of the list l lies in block bs j and points to the next one. -/
structure Ring (w : World) (top : Nat) (bs : Nat → Nat) (l : List Pt) : Prop where
  pos : 3 ≤ l.length
  most : l.length ≤ 12
  lt : ∀ j, j < l.length → bs j < top
  inj : ∀ i j, i < l.length → j < l.length → bs i = bs j → i = j
  x : ∀ j, j < l.length → w.cell? ⟨bs j, 0, none⟩ = some (.int .i64 (at_ l j).f0)
  y : ∀ j, j < l.length → w.cell? ⟨bs j, 1, none⟩ = some (.int .i64 (at_ l j).f1)
  next : ∀ j, j < l.length → w.cell? ⟨bs j, 2, none⟩ = some (.pointer (some ⟨bs ((j + 1) % l.length), 0, none⟩))
  blk : ∀ j, j < l.length → Plain w (bs j)

theorem Ring.below {w w1 : World} {top : Nat} {bs : Nat → Nat} {l : List Pt} (h : Ring w top bs l) (hb : Below top w w1) : Ring w1 top bs l :=
  ⟨h.pos, h.most, h.lt, h.inj, fun j hj => (hb.cell (p := ⟨bs j, 0, none⟩) (h.lt j hj)).trans (h.x j hj), fun j hj => (hb.cell (p := ⟨bs j, 1, none⟩) (h.lt j hj)).trans (h.y j hj),
    fun j hj => (hb.cell (p := ⟨bs j, 2, none⟩) (h.lt j hj)).trans (h.next j hj), fun j hj => (h.blk j hj).below hb (h.lt j hj)⟩
theorem Ring.mono {w : World} {top top' : Nat} {bs : Nat → Nat} {l : List Pt} (h : Ring w top bs l) (ht : top ≤ top') : Ring w top' bs l :=
  { h with lt := fun j hj => Nat.lt_of_lt_of_le (h.lt j hj) ht }

/-- The chain so far: k + 1 corners, the last one of which points nowhere. -/
structure Chain (w : World) (lo : Nat) (bs : Nat → Nat) (l : List Pt) (k : Nat) : Prop where
  lt : ∀ j, j ≤ k → lo ≤ bs j ∧ bs j < w.heap.size
  inj : ∀ i j, i ≤ k → j ≤ k → bs i = bs j → i = j
  x : ∀ j, j ≤ k → w.cell? ⟨bs j, 0, none⟩ = some (.int .i64 (at_ l j).f0)
  y : ∀ j, j ≤ k → w.cell? ⟨bs j, 1, none⟩ = some (.int .i64 (at_ l j).f1)
  next : ∀ j, j < k → w.cell? ⟨bs j, 2, none⟩ = some (.pointer (some ⟨bs (j + 1), 0, none⟩))
  last : w.cell? ⟨bs k, 2, none⟩ = some (.pointer none)
  free : ∀ j, j ≤ k → w.frozen? ⟨bs j, 2, none⟩ = false
  blk : ∀ j, j ≤ k → Plain w (bs j)

theorem bcell {W w1 : World} (hb : Below W.heap.size W w1) : (∀ b o, b < W.heap.size → w1.cell? ⟨b, o, none⟩ = W.cell? ⟨b, o, none⟩) ∧ (∀ b o, b < W.heap.size → w1.frozen? ⟨b, o, none⟩ = W.frozen? ⟨b, o, none⟩) :=
  ⟨fun b o h => hb.cell (p := ⟨b, o, none⟩) h, fun b o h => hb.frozen (p := ⟨b, o, none⟩) h⟩
def Linked (w : World) (l : List Pt) (e : Ending) (w' : World) : Prop := ∃ bs, e = .returned (.tuple #[.agg #[.pointer (some ⟨bs 0, 0, none⟩), .int .i64 l.length], .bool true]) ∧ Ring w' w'.heap.size bs l ∧ (∀ j, j < l.length → w.heap.size ≤ bs j) ∧ Below w.heap.size w w'
theorem add_pos (a : Addr) {n : Nat} (h : 0 < n) : a.add n = ⟨a.block, a.off + n, none⟩ := by unfold Addr.add; rw [if_neg (by omega)]
theorem size_setCell_ (w : World) (a : Addr) (v : Value) : (w.setCell a v).heap.size = w.heap.size := by simp
theorem at_rd (l : List Pt) (j : Nat) : rd_T32 l (j : Int) = at_ l j := by unfold rd_T32 at_; rw [Int.toNat_natCast]
theorem Chain.first {w : World} {x y : Int} {l : List Pt} (hx : (at_ l 0).f0 = x) (hy : (at_ l 0).f1 = y) :
    Chain (w.alloc (.cells #[.int .i64 x, .int .i64 y, .pointer none] 75)) w.heap.size (fun _ => w.heap.size) l 0 := by
  refine ⟨fun j hj => ⟨Nat.le_refl _, by simp⟩, fun i j hi hj _ => by omega, fun j hj => ?_, fun j hj => ?_, fun j hj => by omega, ?_, fun j hj => ?_, fun j hj => Plain.new _ _ _⟩
  · obtain rfl : j = 0 := by omega
    rw [hx]; simp [go_sem]
  · obtain rfl : j = 0 := by omega
    rw [hy]; simp [go_sem]
  · simp [go_sem]
  · simp [go_sem]
theorem Chain.step {w w2 : World} {x y : Int} {lo j : Nat} {l : List Pt} {bs : Nat → Nat} {o : Obj} (h : Chain w lo bs l j) (hx : (at_ l (j + 1)).f0 = x) (hy : (at_ l (j + 1)).f1 = y) (hlo : lo ≤ w.heap.size)
    (e : w2 = (((w.setCell ⟨bs j, 2, none⟩ (.pointer (some ⟨w.heap.size + 1, 0, none⟩))).alloc o).alloc (.cells #[.int .i64 x, .int .i64 y, .pointer none] 75))) :
    Chain w2 lo (fun i => if i = j + 1 then w.heap.size + 1 else bs i) l (j + 1) := by
  have old : ∀ i, i ≤ j → bs i < w.heap.size := fun i hi => (h.lt i hi).2
  have hs : w2.heap.size = w.heap.size + 2 := by subst e; simp
  have keep : ∀ b o', b < w.heap.size → (b = bs j → o' ≠ 2) → w2.cell? ⟨b, o', none⟩ = w.cell? ⟨b, o', none⟩ := by
    intro b o' hb hne
    subst e
    rw [World.cell?_alloc_lt _ _ _ (by simp; omega), World.cell?_alloc_lt _ _ _ (by simpa using hb)]
    exact World.cell?_setCell_other _ _ _ _ (by intro e; injection e with e1 e2; exact hne e1.symm e2.symm)
  have keepF : ∀ b o', b < w.heap.size → w2.frozen? ⟨b, o', none⟩ = w.frozen? ⟨b, o', none⟩ := by
    intro b o' hb
    subst e
    have a1 := (((Below.refl w.heap.size (w.setCell ⟨bs j, 2, none⟩ (.pointer (some ⟨w.heap.size + 1, 0, none⟩)))).alloc (by simp) o).alloc (by simp) (.cells #[.int .i64 x, .int .i64 y, .pointer none] 75)).frozen (p := ⟨b, o', none⟩) hb
    rw [a1, World.frozen?_setCell]
  have new : ∀ o', w2.cell? ⟨w.heap.size + 1, o', none⟩ = (#[.int .i64 x, .int .i64 y, .pointer none] : Array Value)[o']? := by
    intro o'; subst e
    exact World.cell?_alloc_at _ _ _ _ (by simp)
  have newF : ∀ o', w2.frozen? ⟨w.heap.size + 1, o', none⟩ = false := by
    intro o'; subst e
    simp [go_sem]
  have own : w2.cell? ⟨bs j, 2, none⟩ = some (.pointer (some ⟨w.heap.size + 1, 0, none⟩)) := by
    subst e
    rw [World.cell?_alloc_lt _ _ _ (by have := old j (Nat.le_refl _); simp; omega), World.cell?_alloc_lt _ _ _ (by simpa using old j (Nat.le_refl _))]
    exact World.cell?_setCell_same _ _ _ h.last
  refine ⟨fun i hi => ?_, fun i i' hi hi' q => ?_, fun i hi => ?_, fun i hi => ?_, fun i hi => ?_, ?_, fun i hi => ?_, fun i hi => ?_⟩
  · rw [hs]
    by_cases c : i = j + 1
    · rw [if_pos c]; omega
    · rw [if_neg c]; have := h.lt i (by omega); omega
  · by_cases c : i = j + 1 <;> by_cases c' : i' = j + 1
    · omega
    · rw [if_pos c, if_neg c'] at q; have := old i' (by omega); omega
    · rw [if_neg c, if_pos c'] at q; have := old i (by omega); omega
    · rw [if_neg c, if_neg c'] at q; exact h.inj i i' (by omega) (by omega) q
  · by_cases c : i = j + 1
    · subst c; rw [if_pos rfl, new, hx]; rfl
    · rw [if_neg c, keep _ _ (old i (by omega)) (fun _ => by decide)]; exact h.x i (by omega)
  · by_cases c : i = j + 1
    · subst c; rw [if_pos rfl, new, hy]; rfl
    · rw [if_neg c, keep _ _ (old i (by omega)) (fun _ => by decide)]; exact h.y i (by omega)
  · by_cases c : i = j
    · subst c; rw [if_neg (by omega), if_pos rfl]; exact own
    · rw [if_neg (by omega), if_neg (by omega), keep _ _ (old i (by omega)) (fun q => absurd (h.inj i j (by omega) (by omega) q) c)]; exact h.next i (by omega)
  · rw [if_pos rfl, new]; rfl
  · by_cases c : i = j + 1
    · subst c; rw [if_pos rfl]; exact newF _
    · rw [if_neg c, keepF _ _ (old i (by omega))]; exact h.free i (by omega)
  · subst e
    by_cases c : i = j + 1
    · rw [if_pos c]
      have := Plain.new ((w.setCell ⟨bs j, 2, none⟩ (.pointer (some ⟨w.heap.size + 1, 0, none⟩))).alloc o) #[.int .i64 x, .int .i64 y, .pointer none] 75
      rw [World.size_alloc, size_setCell_] at this
      exact this
    · rw [if_neg c]; exact (((h.blk i (by omega)).setCell _ _).alloc _).alloc _
theorem Chain.close {w w2 : World} {lo : Nat} {l : List Pt} {bs : Nat → Nat} (h : Chain w lo bs l (l.length - 1)) (h3 : 3 ≤ l.length) (h12 : l.length ≤ 12)
    (e : w2 = w.setCell ⟨bs (l.length - 1), 2, none⟩ (.pointer (some ⟨bs 0, 0, none⟩))) : Ring w2 w.heap.size bs l := by
  subst e
  refine ⟨h3, h12, fun j hj => (h.lt j (by omega)).2, fun i j hi hj q => h.inj i j (by omega) (by omega) q, fun j hj => ?_, fun j hj => ?_, fun j hj => ?_, fun j hj => (h.blk j (by omega)).setCell _ _⟩
  · rw [World.cell?_setCell_other _ _ _ _ (by intro e; injection e with e1 e2; exact absurd e2 (by decide))]; exact h.x j (by omega)
  · rw [World.cell?_setCell_other _ _ _ _ (by intro e; injection e with e1 e2; exact absurd e2 (by decide))]; exact h.y j (by omega)
  · by_cases c : j = l.length - 1
    · subst c
      rw [show l.length - 1 + 1 = l.length from by omega, Nat.mod_self]
      exact World.cell?_setCell_same _ _ _ h.last
    · rw [World.cell?_setCell_other _ _ _ _ (by intro e; injection e with e1 e2; exact c (h.inj _ _ (by omega) (by omega) e1.symm)), Nat.mod_eq_of_lt (by omega)]
      exact h.next j (by omega)
theorem Ring.setCell {w : World} {top : Nat} {bs : Nat → Nat} {l : List Pt} (h : Ring w top bs l) {p : Addr} (hne : ∀ j, j < l.length → bs j ≠ p.block) (v : Value) : Ring (w.setCell p v) top bs l :=
  ⟨h.pos, h.most, h.lt, h.inj, fun j hj => (World.cell?_setCell_far _ _ _ _ (fun e => hne j hj e.symm)).trans (h.x j hj), fun j hj => (World.cell?_setCell_far _ _ _ _ (fun e => hne j hj e.symm)).trans (h.y j hj),
    fun j hj => (World.cell?_setCell_far _ _ _ _ (fun e => hne j hj e.symm)).trans (h.next j hj), fun j hj => (h.blk j hj).setCell _ _⟩
set_option maxRecDepth 100000 in
set_option maxHeartbeats 2000000 in
theorem outline_yes (k : Nat) (A0 : Option Addr) (c0 : Nat) (l0 : List Pt) (w : World) (hr0 : Kd.C k32 w A0 l0.length l0) (hc0 : l0.length ≤ c0) (h : impl_cornersValid.f k l0 = some true)
    (h3 : 3 ≤ l0.length) (h12 : l0.length ≤ 12) :
    Calls Try.prog 43 #[.slice A0 l0.length c0] w (Linked w l0) := by
  obtain ⟨ad, rfl, hx0, hy0⟩ := at_T32 hr0 0 (by omega) (by omega)
  have e0 : ad.add (Int.toNat 0 * 2) = ad := by simp [Addr.add]
  rw [e0] at hx0 hy0
  have HR0 := Aside0.mk hr0
  clear e0
  have HC0 := Aside0.mk hc0
  have H := Aside0.mk h
  have l1 : (0 : Int) < l0.length := by omega
  have l2 : (1 : Int) ≤ l0.length := by omega
  have l3 : ¬ c0 = 1 := by omega
  have l4 : (1 : Int) ≤ c0 := by omega
  clear hr0 hc0 h
  go_enter Try.func43, Try.ntmps43
  go_wp2_with (go_at_call 47; refine (impl_cornersValid.calls k _ _ l0 true _ ?s1 ?s2 H.out).mono ?_; (case s1 => exact Kd.C_below HR0.out ((Below.refl _ _).alloc (Nat.le_refl _) _)); (case s2 => exact HC0.out); rintro e w1 ⟨rfl, hb⟩; have hz : w.heap.size + 1 ≤ w1.heap.size := (by have := hb.size; simp at this; omega); have HB := Aside0.mk (((Below.refl w.heap.size w).alloc (Nat.le_refl _) _).trans (hb.mono (by simp))); replace hx0 := (HB.out.cell (World.block_lt_of_cell? w _ hx0)).trans hx0; replace hy0 := (HB.out.cell (World.block_lt_of_cell? w _ hy0)).trans hy0; obtain ⟨hc, hf⟩ := bcell hb; clear hb; simp only [World.size_alloc] at hc hf)
  have HC := Aside0.mk (show Chain (w1.alloc (.cells #[.int .i64 (rd_T32 l0 0).f0, .int .i64 (rd_T32 l0 0).f1, .pointer none] 75)) w1.heap.size (fun _ => w1.heap.size) l0 0 from Chain.first (by rw [← at_rd]; rfl) (by rw [← at_rd]; rfl))
  have HW := Aside0.mk (show Below w1.heap.size w1 (w1.alloc (.cells #[.int .i64 (rd_T32 l0 0).f0, .int .i64 (rd_T32 l0 0).f1, .pointer none] 75)) from (Below.refl _ _).alloc (Nat.le_refl _) _)
  go_loopw [5, 21] (fun v5 v21 wr => ∃ (j : Nat) (bs : Nat → Nat), j < l0.length ∧ v21 = .int .i64 j ∧ v5 = .pointer (some ⟨bs j, 0, none⟩) ∧ Aside0 (bs 0 = w1.heap.size) ∧ Aside0 (Chain wr w1.heap.size bs l0 j) ∧ Aside0 (Below w1.heap.size w1 wr)) (fun _ v21 _ => l0.length - (intOf v21).toNat)
  case atStart => exact ⟨0, fun _ => w1.heap.size, by omega, rfl, rfl, ⟨rfl⟩, HC, HW⟩
  case round =>
    clear HC HW
    obtain ⟨j, bs, hj, rfl, rfl, HB0, HC, HW⟩ := hrel
    by_cases hlt : j < l0.length - 1
    · obtain ⟨ad', e', hX0, hY0⟩ := at_T32 HR0.out ((j + 1 : Nat) : Int) (by omega) (by omega)
      cases e'
      rw [show ((j + 1 : Nat) : Int).toNat * 2 = 2 + j * 2 from by omega, add_pos ad (by omega)] at hX0 hY0
      dsimp only at hY0
      have hb2 : Below w.heap.size w wr := HB.out.trans (HW.out.mono (by omega))
      have hX : wr.cell? ⟨ad.block, ad.off + 2 + j * 2, none⟩ = some (.int .i64 (rd_T32 l0 ((j + 1 : Nat) : Int)).f0) := by
        rw [← hX0, Nat.add_assoc]; exact hb2.cell (World.block_lt_of_cell? w _ hX0)
      have hY : wr.cell? ⟨ad.block, ad.off + 2 + j * 2 + 1, none⟩ = some (.int .i64 (rd_T32 l0 ((j + 1 : Nat) : Int)).f1) := by
        rw [← hY0, Nat.add_assoc ad.off]; exact hb2.cell (World.block_lt_of_cell? w _ hY0)
      have hL := HC.out.last
      have hLf := HC.out.free j (Nat.le_refl _)
      have hLt := (HC.out.lt j (Nat.le_refl _)).2
      have hLn : ¬ wr.heap.size = bs j := by omega
      have hLn2 : ¬ wr.heap.size + 1 = bs j := by omega
      clear hX0 hY0 hb2 hc hf hx0 hy0
      rw [at_rd] at hX hY
      go_wp2
      go_roundw
      case rel => exact ⟨j + 1, fun i => if i = j + 1 then wr.heap.size + 1 else bs i, by omega, by go_num, by simp, ⟨by dsimp only; rw [if_neg (by omega)]; exact HB0.out⟩, ⟨Chain.step HC.out rfl rfl HW.out.size rfl⟩, ⟨((HW.out.setCell (p := ⟨bs j, 2, none⟩) (HC.out.lt j (Nat.le_refl _)).1 _).alloc (by simpa using HW.out.size) _).alloc (by have := HW.out.size; simp; omega) _⟩⟩
      case measure => simp [intOf]; omega
    · obtain rfl : j = l0.length - 1 := by omega
      have hL := HC.out.last
      have hLf := HC.out.free _ (Nat.le_refl _)
      have hLt := HC.out.lt _ (Nat.le_refl _)
      have hN : ¬ bs (l0.length - 1) = w.heap.size := by omega
      have r0 := (HW.out.cell (p := ⟨w.heap.size, 0, none⟩) (by dsimp only; omega)).trans (hc w.heap.size 0 (by omega))
      have r1 := (HW.out.cell (p := ⟨w.heap.size, 1, none⟩) (by dsimp only; omega)).trans (hc w.heap.size 1 (by omega))
      have q0 := (HW.out.frozen (p := ⟨w.heap.size, 0, none⟩) (by dsimp only; omega)).trans (hf w.heap.size 0 (by omega))
      have q1 := (HW.out.frozen (p := ⟨w.heap.size, 1, none⟩) (by dsimp only; omega)).trans (hf w.heap.size 1 (by omega))
      simp [go_sem] at r0 r1 q0 q1
      clear hc hf hx0 hy0
      go_wp2
      refine bodyPost_ret (v := .tuple #[.agg #[.pointer (some ⟨bs 0, 0, none⟩), .int .i64 l0.length], .bool true]) ?_ rfl ?_
      · have hB0 := HB0.out
        rw [hB0]
        simp [results, Try.results43, go_sem, r0, r1, hN, Ne.symm hN]
      · have hB0 := HB0.out
        have hlo := HC.out.lt
        rw [← hB0]
        refine ⟨bs, rfl, ?_, fun j hj => by have := (hlo j (by omega)).1; omega, ?_⟩
        · refine ((((Chain.close HC.out h3 h12 rfl).setCell (p := ⟨w.heap.size, 0, none⟩) (fun j hj => ?_) _).setCell (p := ⟨w.heap.size, 1, none⟩) (fun j hj => ?_) _).mono (by simp))
          all_goals (have := (hlo j (by omega)).1; dsimp only; omega)
        · exact (((HB.out.trans (HW.out.mono (by omega))).setCell (p := ⟨bs (l0.length - 1), 2, none⟩) (by have := (hlo _ (Nat.le_refl _)).1; dsimp only; omega) _).setCell (p := ⟨w.heap.size, 0, none⟩) (by simp) _).setCell (p := ⟨w.heap.size, 1, none⟩) (by simp) _
set_option maxRecDepth 100000 in
set_option maxHeartbeats 2000000 in
theorem outline_no (k : Nat) (A0 : Option Addr) (c0 : Nat) (l0 : List Pt) (w : World) (hr0 : Kd.C k32 w A0 l0.length l0) (hc0 : l0.length ≤ c0) (h : impl_cornersValid.f k l0 = some false) :
    Calls Try.prog 43 #[.slice A0 l0.length c0] w fun e w' => e = .returned (.tuple #[.agg #[.pointer none, .int .i64 0], .bool false]) ∧ Below w.heap.size w w' := by
  have HR0 := Aside0.mk hr0
  have HC0 := Aside0.mk hc0
  have H := Aside0.mk h
  clear hr0 hc0 h
  go_enter Try.func43, Try.ntmps43
  go_wp2_with (go_at_call 47; refine (impl_cornersValid.calls k _ _ l0 false _ ?s1 ?s2 H.out).mono ?_; (case s1 => exact Kd.C_below HR0.out ((Below.refl _ _).alloc (Nat.le_refl _) _)); (case s2 => exact HC0.out); rintro e w' ⟨rfl, hb⟩; have hz : w.heap.size + 1 ≤ w'.heap.size := (by have := hb.size; simp at this; omega); have HB := Aside0.mk (((Below.refl w.heap.size w).alloc (Nat.le_refl _) _).trans (hb.mono (by simp))); obtain ⟨hc, hf⟩ := bcell hb; clear hb; simp only [World.size_alloc] at hc hf)
  refine bodyPost_ret (v := .tuple #[.agg #[.pointer none, .int .i64 0], .bool false]) ?_ rfl ⟨rfl, ?_⟩
  · have z1 := hc w.heap.size 0 (by omega)
    have z2 := hc w.heap.size 1 (by omega)
    simp [results, Try.results43, go_sem, z1, z2]
  · exact HB.out.setCell (by simp) _ |>.setCell (by simp) _


end Go.Proofs.Ytgdhgncdpmalcaa.Ring
