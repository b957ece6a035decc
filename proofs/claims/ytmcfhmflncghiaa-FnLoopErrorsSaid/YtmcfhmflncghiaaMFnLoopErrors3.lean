/- Part 3 of what the proof of this law rests on: the functions of the translation as plain Lean functions with their walks, and the plain laws behind. -/
import Derived.Laws.OwnMore
import Derived.Maps.AppendAt
import Derived.OwnWalk
import Derived.StillTactics
import Derived.WalkKit
import Derived.WalkSpells
import Derived.Test.YtmcfhmflncghiaaMFnLoopErrors2
namespace Go.Proofs.Ytmcfhmflncghiaa.TreeW
open Go.RowKit Go.Proofs.Ytmcfhmflncghiaa.Q Go.Proofs.Ytmcfhmflncghiaa.Pure Go.Proofs.YtmcfhmflncghiaaW.PrintWords Go.Proofs.YtmcfhmflncghiaaW.PrintLast Go.Proofs.YtmcfhmflncghiaaW.PrintMore
set_option linter.unusedVariables false
set_option linter.unusedSimpArgs false
theorem infoBr : (Try.prog.info? 86).map (fun i => (i.zero, i.size, i.bytes)) = some (some (.agg #[(.int .i64 0), (.slice none 0 0)]), 2, 32) := by kernel_rfl
theorem infoBo : (Try.prog.info? 4).map (fun i => (i.zero, i.size, i.bytes)) = some (some (.bool false), 1, 1) := by kernel_rfl
theorem infoIn : (Try.prog.info? 3).map (fun i => (i.zero, i.size, i.bytes)) = some (some (.int .i64 0), 1, 8) := by kernel_rfl
/-! the closed form -/
abbrev Br := Int × List Int
def tstep (num nx : Int) (way : List Int) (st : List Br) (sn : List Bool) : Option (List Br × List Bool) :=
  if 0 ≤ nx ∧ nx < (sn.length : Int) then (if rdOf false sn nx = true then some (st, sn) else (if st.length < 1000 ∧ way.length < 1000 then some (st ++ [(nx, way ++ [num])], sn.set nx.toNat true) else none)) else none
def tone (l : List Run) (nd : Int) (way : List Int) (x : Int) (st : List Br) (sn : List Bool) : Option (List Br × List Bool) :=
  if 0 ≤ x ∧ x < (l.length : Int) then
    (if (rd_T32 l x).f1 = nd then tstep (wrap64 (-(wrap64 (x + 1)))) (rd_T32 l x).f0 way st sn
     else if (rd_T32 l x).f0 = nd then tstep (wrap64 (x + 1)) (rd_T32 l x).f1 way st sn else some (st, sn)) else none
def tin (l : List Run) (nd : Int) (way : List Int) : List Int → List Br → List Bool → Option (List Br × List Bool)
  | [], st, sn => some (st, sn)
  | x :: xs, st, sn => (tone l nd way x st sn).bind fun p => tin l nd way xs p.1 p.2
def tout (l : List Run) (tree : List Int) (z : Int) : Nat → List Br → List Bool → Option (List Int)
  | 0, _, _ => none
  | k + 1, st, sn => match st.getLast? with
    | none => some []
    | some b => if b.1 = z then some b.2 else (tin l b.1 b.2 tree st.dropLast sn).bind fun p => tout l tree z k p.1 p.2
def treeR (k : Nat) (l : List Run) (tree : List Int) (a b : Int) : Option (List Int) :=
  if 0 ≤ a ∧ a < 6 ∧ l.length ≤ 1000 ∧ tree.length ≤ 1000 then tout l tree b k [(a, [])] ((List.replicate 6 false).set a.toNat true) else none
/-! the world -/
/-- A branch with its slice. -/
structure Bs where
  nd : Int
  way : List Int
  A : Option Addr
  cap : Nat
def bcells (e : Bs) : List Value := [.int .i64 e.nd, .slice e.A e.way.length e.cap]
def ecells (E : List Bs) : List Value := E.flatMap bcells
def brs (E : List Bs) : List Br := E.map fun e => (e.nd, e.way)
theorem ecells_len (E : List Bs) : (ecells E).length = E.length * 2 := by
  induction E with
  | nil => rfl
  | cons e E ih =>
    have : ecells (e :: E) = bcells e ++ ecells E := by simp [ecells]
    rw [this, List.length_append, ih, List.length_cons]; simp [bcells]; omega
theorem ecells_snoc (E : List Bs) (e : Bs) : ecells (E ++ [e]) = ecells E ++ bcells e := by simp [ecells]
/-- A way can be read, from block B on. -/
def WayR (B : Nat) (W : World) (e : Bs) : Prop := Kd.R (Kd.int .i64) 3 W B (fun _ => True) (.slice e.A e.way.length e.cap) e.way
theorem WayR.below {B : Nat} {W W1 : World} {e : Bs} (h : WayR B W e) (hb : Below W.heap.size W W1) : WayR B W1 e := Kd.R_below h hb
/-- A row of another type has been written. -/
theorem WayR.other {B : Nat} {W W1 : World} {e : Bs} {row : Option Nat} (h : WayR B W e) (hg : W.grownBy W1 row) (hr : ∀ g, row = some g → ∃ cs t, W.heap[g]? = some (.cells cs t (0, 0)) ∧ t ≠ 3) : WayR B W1 e := by
  have ho := Kd.own_of_R (α := Int) h
  refine Kd.R_of_own (α := Int) (ho.kept hg ?_) (fun _ _ => trivial)
  cases hv : (Value.slice e.A e.way.length e.cap).ownBlock with
  | none => exact .inl rfl
  | some b =>
    refine .inr fun q => ?_
    obtain ⟨cs, t, h1, h2⟩ := hr b q.symm
    rcases ho.2 with ⟨z, _⟩ | ⟨b', cap, cur, z, _, hh, _⟩
    · rw [z] at hv; cases hv
    · rw [z] at hv
      have : b' = b := by simpa [Value.ownBlock] using hv
      subst this
      rw [h1] at hh
      injection hh with hh
      injection hh with _ hh
      exact h2 hh
/-- The last of the stack, and the stack without it. -/
theorem stack_last {W : World} {B : Nat} {v : Value} {E : List Bs} {e : Bs} (h : W.ownsRow B 86 2 v (E ++ [e]).length (ecells (E ++ [e]))) :
    ∃ b cap, v = .slice (some ⟨b, 0, none⟩) (E.length + 1) cap ∧ W.cell? ⟨b, E.length * 2, none⟩ = some (.int .i64 e.nd) ∧ W.cell? ⟨b, E.length * 2 + 1, none⟩ = some (.slice e.A e.way.length e.cap) ∧ E.length + 1 ≤ cap ∧ W.ownsRow B 86 2 (.slice (some ⟨b, 0, none⟩) E.length cap) E.length (ecells E) ∧ b < W.heap.size := by
  rcases h.2 with ⟨_, q⟩ | ⟨b, cap, cur, rfl, hb, hg, h1, h2, h3, h4⟩
  · simp at q
  · have hl : (E ++ [e]).length = E.length + 1 := by simp
    have hel := ecells_len E
    rw [hl] at h h1 h4 ⊢
    refine ⟨b, cap, rfl, ?_, ?_, h1, ⟨hel, .inr ⟨b, cap, cur, rfl, hb, hg, by omega, h2, h3, ?_⟩⟩, blk_lt hg⟩
    · rw [h.cellAt (E.length * 2) (by omega), ecells_snoc, List.getElem?_append_right (by omega), hel, Nat.sub_self]; rfl
    · rw [h.cellAt (E.length * 2 + 1) (by omega), ecells_snoc, List.getElem?_append_right (by omega), hel, show E.length * 2 + 1 - E.length * 2 = 1 by omega]; rfl
    · have e1 : cur.toList.take (E.length * 2) = (cur.toList.take ((E.length + 1) * 2)).take (E.length * 2) := by rw [List.take_take]; congr 1; omega
      rw [e1, h4, ecells_snoc, ← hel, List.take_left]
theorem stack_zero {W : World} {B : Nat} {v : Value} {xs : List Value} (h : W.ownsRow B 86 2 v ([] : List Bs).length xs) : ∃ A c, v = .slice A 0 c := by
  rcases h.2 with ⟨rfl, _⟩ | ⟨b, cap, cur, rfl, _⟩
  · exact ⟨_, _, rfl⟩
  · exact ⟨_, _, rfl⟩
/-- The state: what was seen, the stack, the ways. -/
structure Tw (w W : World) (gs : Nat) (sn : List Bool) (v : Value) (E : List Bs) : Prop where
  seen : W.heap[gs]? = some (.cells (sn.map Value.bool).toArray 4 (0, 0))
  len : sn.length = 6
  stk : W.ownsRow w.heap.size 86 2 v E.length (ecells E)
  ways : ∀ e ∈ E, WayR w.heap.size W e
  be : Below w.heap.size w W
  le : w.heap.size ≤ gs
theorem Tw.cell {w W : World} {gs : Nat} {sn : List Bool} {v : Value} {E : List Bs} (h : Tw w W gs sn v E) (x : Int) (h0 : 0 ≤ x) (h1 : x < (sn.length : Int)) : W.cell? ⟨gs, x.toNat, none⟩ = some (.bool (rdOf false sn x)) := by
  refine (blk_cell h.seen x.toNat).trans ?_
  have hl : x.toNat < sn.length := by omega
  simp [rdOf, List.getElem?_eq_getElem hl, hl]
/-- New blocks alone. -/
theorem Tw.below {w W W1 : World} {gs : Nat} {sn : List Bool} {v : Value} {E : List Bs} (h : Tw w W gs sn v E) (hb : Below W.heap.size W W1) : Tw w W1 gs sn v E :=
  ⟨(hb.block gs (blk_lt h.seen)).trans h.seen, h.len, h.stk.kept (row := none) ⟨hb.os, hb.tape, hb.output, hb.size, fun i hi _ => hb.block i hi⟩ (by cases v.ownBlock <;> simp), fun e he => (h.ways e he).below hb, h.be.trans (hb.mono h.be.size), h.le⟩
theorem Tw.pop {w W : World} {gs : Nat} {sn : List Bool} {v v' : Value} {E : List Bs} {e : Bs} (h : Tw w W gs sn v (E ++ [e])) (hs : W.ownsRow w.heap.size 86 2 v' E.length (ecells E)) : Tw w W gs sn v' E :=
  ⟨h.seen, h.len, hs, fun x hx => h.ways x (List.mem_append_left _ hx), h.be, h.le⟩
/-- A node is seen. -/
theorem Tw.see {w W : World} {gs : Nat} {sn : List Bool} {v : Value} {E : List Bs} (h : Tw w W gs sn v E) (i : Nat) : Tw w (W.setCell ⟨gs, i, none⟩ (.bool true)) gs (sn.set i true) v E := by
  have hg : W.grownBy (W.setCell ⟨gs, i, none⟩ (.bool true)) (some gs) := ⟨rfl, rfl, rfl, by simp, fun k hk hne => Below.heap_setCell W ⟨gs, i, none⟩ _ k (fun e => hne (by rw [e]))⟩
  have hne : v.ownBlock ≠ some gs := by
    intro q
    rcases h.stk.2 with ⟨z, _⟩ | ⟨b', cap, cur, z, _, hh, _⟩
    · rw [z] at q; cases q
    · rw [z] at q
      have : b' = gs := by simpa [Value.ownBlock] using q
      subst this
      rw [h.seen] at hh
      injection hh with hh
      injection hh with _ hh
      revert hh; decide
  exact ⟨blk_put h.seen i _ (by simp [List.map_set]), by rw [List.length_set]; exact h.len, h.stk.kept hg (.inr hne), fun e he => (h.ways e he).other hg (fun g q => by cases q; exact ⟨_, _, h.seen, by decide⟩), h.be.setCell (p := ⟨gs, i, none⟩) h.le _, h.le⟩
/-- A branch is laid on the stack. -/
theorem Tw.push {w W W1 : World} {gs : Nat} {sn : List Bool} {v v' : Value} {E : List Bs} {e : Bs} (h : Tw w W gs sn v E) (he : WayR w.heap.size W e) (hg : W.grownBy W1 v.ownBlock) (hs : W1.ownsRow w.heap.size 86 2 v' (E ++ [e]).length (ecells (E ++ [e]))) : Tw w W1 gs sn v' (E ++ [e]) := by
  have hty : ∀ g, v.ownBlock = some g → ∃ cs t, W.heap[g]? = some (.cells cs t (0, 0)) ∧ t = 86 := fun g q => by
    rcases h.stk.2 with ⟨z, _⟩ | ⟨b', cap, cur, z, _, hh, _⟩
    · rw [z] at q; cases q
    · rw [z] at q
      have : b' = g := by simpa [Value.ownBlock] using q
      subst this
      exact ⟨_, _, hh, rfl⟩
  have hk : ∀ x : Bs, WayR w.heap.size W x → WayR w.heap.size W1 x := fun x hx => hx.other hg (fun g q => by
    obtain ⟨cs, t, h1, h2⟩ := hty g q
    exact ⟨cs, t, h1, by rw [h2]; decide⟩)
  refine ⟨(hg.block gs (blk_lt h.seen) (fun q => ?_)).trans h.seen, h.len, hs, fun x hx => ?_, h.be.grown hg h.be.size (fun j hj => (h.stk.lt j hj).1), h.le⟩
  · obtain ⟨cs, t, h1, h2⟩ := hty gs q.symm
    rw [h.seen] at h1
    injection h1 with h1
    injection h1 with _ h1
    rw [h2] at h1
    revert h1; decide
  · rcases List.mem_append.1 hx with z | z
    · exact hk x (h.ways x z)
    · rw [List.mem_singleton.1 z]; exact hk e he
theorem made_bool (n : Nat) : madeCells #[Value.bool false] n = Array.replicate n (Value.bool false) := by
  have := toList_madeCells_one (Value.bool false) n
  apply Array.toList_inj.1
  rw [this]; simp
theorem nil_or_lastB (E : List Bs) : E = [] ∨ ∃ (E' : List Bs) (e : Bs), E = E' ++ [e] := by
  rcases List.eq_nil_or_concat E with h | ⟨a, b, h⟩
  · exact .inl h
  · exact .inr ⟨a, b, by simpa using h⟩
theorem brs_snoc (E : List Bs) (e : Bs) : brs (E ++ [e]) = brs E ++ [(e.nd, e.way)] := by simp [brs]
theorem brs_len (E : List Bs) : (brs E).length = E.length := by simp [brs]
def put2 (w : World) (g : Nat) (a : Int) (v : Value) : World := (w.setCell ⟨g, 0, none⟩ (.int .i64 a)).setCell ⟨g, 1, none⟩ v
theorem tw_box {w wr w29 : World} {gb gs : Nat} {sn : List Bool} {v : Value} {E : List Bs} {e : Bs} (hg : gb = wr.heap.size) (hbox : w29.heap[gb]? = some (.cells #[.int .i64 0, .slice none 0 0] 86 (0, 0))) (hb : Below wr.heap.size wr w29) (hT : Tw w wr gs sn v E) (hW : WayR w.heap.size wr e) :
    Tw w (put2 w29 gb e.nd (.slice e.A e.way.length e.cap)) gs sn v E ∧ WayR w.heap.size (put2 w29 gb e.nd (.slice e.A e.way.length e.cap)) e ∧ (put2 w29 gb e.nd (.slice e.A e.way.length e.cap)).heap[gb]? = some (.cells #[.int .i64 e.nd, .slice e.A e.way.length e.cap] 86 (0, 0)) := by
  have h2 : Below wr.heap.size wr (put2 w29 gb e.nd (.slice e.A e.way.length e.cap)) := (hb.setCell (p := ⟨gb, 0, none⟩) (by show wr.heap.size ≤ gb; omega) _).setCell (p := ⟨gb, 1, none⟩) (by show wr.heap.size ≤ gb; omega) _
  refine ⟨hT.below h2, hW.below h2, ?_⟩
  unfold put2
  exact blk_put (cs := #[.int .i64 e.nd, .slice none 0 0]) (blk_put hbox 0 _ rfl) 1 _ rfl
/-- What a round over the tree keeps. -/
structure In (w W : World) (gs : Nat) (sn : List Bool) (v : Value) (E : List Bs) (e : Bs) (gb : Nat) : Prop where
  tw : Tw w W gs sn v E
  wy : WayR w.heap.size W e
  bx : W.heap[gb]? = some (.cells #[.int .i64 e.nd, .slice e.A e.way.length e.cap] 86 (0, 0))
  ne : v.ownBlock ≠ some gb
theorem In.below {w W W1 : World} {gs gb : Nat} {sn : List Bool} {v : Value} {E : List Bs} {e : Bs} (h : In w W gs sn v E e gb) (hb : Below W.heap.size W W1) : In w W1 gs sn v E e gb :=
  ⟨h.tw.below hb, h.wy.below hb, (hb.block gb (blk_lt h.bx)).trans h.bx, h.ne⟩
theorem In.see {w W : World} {gs gb : Nat} {sn : List Bool} {v : Value} {E : List Bs} {e : Bs} (h : In w W gs sn v E e gb) (i : Nat) : In w (W.setCell ⟨gs, i, none⟩ (.bool true)) gs (sn.set i true) v E e gb := by
  have hg : W.grownBy (W.setCell ⟨gs, i, none⟩ (.bool true)) (some gs) := ⟨rfl, rfl, rfl, by simp, fun k hk hne => Below.heap_setCell W ⟨gs, i, none⟩ _ k (fun e => hne (by rw [e]))⟩
  have hne : gs ≠ gb := blk_ne h.tw.seen h.bx (by decide)
  exact ⟨h.tw.see i, h.wy.other hg (fun g q => by cases q; exact ⟨_, _, h.tw.seen, by decide⟩), (hg.block gb (blk_lt h.bx) (fun q => hne (by injection q with q; exact q.symm))).trans h.bx, h.ne⟩
theorem In.push {w W W1 : World} {gs gb : Nat} {sn : List Bool} {v v' : Value} {E : List Bs} {e e2 : Bs} (h : In w W gs sn v E e gb) (he : WayR w.heap.size W e2) (hg : W.grownBy W1 v.ownBlock) (hs : W1.ownsRow w.heap.size 86 2 v' (E.length + 1) (ecells E ++ bcells e2)) (hloc : v'.ownBlock = v.ownBlock ∨ v'.ownBlock = some W.heap.size) : In w W1 gs sn v' (E ++ [e2]) e gb := by
  have hty : ∀ g, v.ownBlock = some g → ∃ cs t, W.heap[g]? = some (.cells cs t (0, 0)) ∧ t ≠ 3 := fun g q => by
    rcases h.tw.stk.2 with ⟨z, _⟩ | ⟨b', cap, cur, z, _, hh, _⟩
    · rw [z] at q; cases q
    · rw [z] at q
      have : b' = g := by simpa [Value.ownBlock] using q
      subst this
      exact ⟨_, _, hh, by decide⟩
  have hlt := blk_lt h.bx
  refine ⟨h.tw.push he hg (by rw [List.length_append, List.length_singleton, ecells_snoc]; exact hs), h.wy.other hg hty, (hg.block gb hlt (fun q => h.ne q.symm)).trans h.bx, ?_⟩
  rcases hloc with q | q
  · rw [q]; exact h.ne
  · rw [q]; intro z; injection z with z; omega
theorem tmeas {n i : Nat} (h : i < n) (e : wrap64 ((i : Int) + 1) = ((i + 1 : Nat) : Int)) : n - (intOf (.int .i64 (wrap64 ((i : Int) + 1)))).toNat < n - (intOf (.int .i64 (i : Int))).toNat := by
  rw [e]
  show n - (i + 1) < n - i
  omega
theorem tmeas2 {n i : Nat} (h : i < n) : n - (intOf (.int .i64 ((i : Int) + 1))).toNat < n - (intOf (.int .i64 (i : Int))).toNat := by
  show n - (i + 1) < n - i
  omega
set_option maxHeartbeats 8000000 in
set_option maxRecDepth 100000 in
theorem tree_calls (k0 : Nat) (A0 : Option Addr) (c0 : Nat) (l0 : List Run) (A1 : Option Addr) (c1 : Nat) (l1 : List Int) (a2 a3 : Int) (r : List Int) (w : World) (hr0 : Kd.C k32 w A0 l0.length l0) (hc0 : l0.length ≤ c0) (hr1 : Kd.C (Kd.int .i64) w A1 l1.length l1) (hc1 : l1.length ≤ c1) (h : treeR k0 l0 l1 a2 a3 = some r) :
    Calls Try.prog 49 #[.slice A0 l0.length c0, .slice A1 l1.length c1, .int .i64 a2, .int .i64 a3] w fun e w' => ∃ v0_ : Value, e = .returned v0_ ∧ Kd.R (Kd.int .i64) 3 w' w.heap.size (fun _ => True) v0_ r ∧ Below w.heap.size w w' := by
  obtain ⟨iB, hiB, hzB0, hzB1, hzB2⟩ := info_parts infoBr
  unfold treeR at h
  by_cases c : 0 ≤ a2 ∧ a2 < 6 ∧ l0.length ≤ 1000 ∧ l1.length ≤ 1000
  · rw [if_pos c] at h
    have HH := Aside0.mk h
    have HR0 := Aside0.mk hr0
    have HR1 := Aside0.mk hr1
    have HL0 := Aside0.mk c.2.2.1
    have HL1 := Aside0.mk c.2.2.2
    have p0 := eq_true c.1
    have p1 := eq_true c.2.1
    have hmk := run_make_row' (P := Try.prog) 47 4 (.bool false) 1 Try.underlying47 infoBo rfl .i64 .i64 6 (by omega) (by omega)
    simp only [show ((6 : Nat) : Int) = 6 from rfl] at hmk
    have hmd := made_bool 6
    clear h hr0 hr1 hc0 hc1 c
    go_enter Try.func49, Try.ntmps49
    go_upto_region 3 with (fail)
    have hT : Tw w ((w.alloc (.cells #[.int .i64 a2, .slice none 0 0] 86)).alloc (.cells ((Array.replicate 6 (Value.bool false)).setIfInBounds a2.toNat (.bool true)) 4)) (w.heap.size + 1) ((List.replicate 6 false).set a2.toNat true) (.slice (some ⟨w.heap.size, 0, none⟩) 1 1) [⟨a2, [], none, 0⟩] := by
      refine ⟨?_, by rw [List.length_set, List.length_replicate], ?_, ?_, ?_, by omega⟩
      · have e1 : (Array.replicate 6 (Value.bool false)).setIfInBounds a2.toNat (.bool true) = (((List.replicate 6 false).set a2.toNat true).map Value.bool).toArray := by
          rw [List.map_set, List.map_replicate, ← List.setIfInBounds_toArray, ← List.toArray_replicate]
        rw [e1]
        have := heap_alloc_new (w.alloc (.cells #[.int .i64 a2, .slice none 0 0] 86)) (.cells (((List.replicate 6 false).set a2.toNat true).map Value.bool).toArray 4)
        rw [World.size_alloc] at this
        exact this
      · have := World.ownsRow_lit (base := w.heap.size) (e := 86) (size := 2) w #[.int .i64 a2, .slice none 0 0] 1 (Nat.le_refl _) (by unfold maxLen; omega) rfl
        exact this.alloc _
      · intro e he
        rw [List.mem_singleton.1 he]
        exact Kd.R_of_own (α := Int) (World.ownsRow_nil _ _ _ _) (fun _ _ => trivial)
      · exact ((Below.refl _ _).alloc (Nat.le_refl _) _).alloc (by simp) _
    go_upto_region 4 with (fail)
    generalize ((w.alloc (.cells #[.int .i64 a2, .slice none 0 0] 86)).alloc (.cells ((Array.replicate 6 (Value.bool false)).setIfInBounds a2.toNat (.bool true)) 4)) = W0 at hT ⊢
    have HT0 := Aside0.mk hT
    clear hT hmk hmd p0 p1
    go_loopg [9] k0 (fun kq v9 wr => ∃ (sn : List Bool) (E : List Bs), Aside0 (tout l0 l1 a3 kq (brs E) sn = some r) ∧ Aside0 (kq ≤ k0) ∧ E.length ≤ 1000 ∧ Aside0 (∀ e ∈ E, e.way.length ≤ 1000) ∧ Aside0 (Tw w wr (w.heap.size + 1) sn v9 E))
    case atStart => exact ⟨_, [⟨a2, [], none, 0⟩], HH, ⟨Nat.le_refl _⟩, by simp, ⟨by simp⟩, HT0⟩
    case round =>
      clear HT0 HH
      obtain ⟨sn, E, HA, HK, hE, HE, HT⟩ := hrel
      cases gk with
      | zero => exact absurd HA.out (by simp [tout])
      | succ k1 =>
        have H := HA.out
        clear HA
        rw [tout] at H
        rcases nil_or_lastB E with rfl | ⟨E, e, rfl⟩
        · obtain rfl : ([] : List Int) = r := Option.some.inj H
          obtain ⟨A, c, rfl⟩ := stack_zero HT.out.stk
          clear H
          go_wp2
          go_ret
          exact ⟨_, rfl, Kd.R_of_own (α := Int) (World.ownsRow_lit (base := w.heap.size) (e := 3) (size := 1) wr #[] 0 HT.out.be.size (by unfold maxLen; omega) rfl) (fun _ _ => trivial), HT.out.be.alloc HT.out.be.size _⟩
        · rw [brs_snoc, List.getLast?_append, List.getLast?_singleton, List.dropLast_concat] at H
          dsimp only [Option.or] at H
          replace H := Aside0.mk H
          rw [List.length_append, List.length_singleton] at hE
          have hw1 := HE.out e (by simp)
          obtain ⟨b, cap, rfl, x0, x1, hcap, hS, hbl⟩ := stack_last HT.out.stk
          have hTp := Aside0.mk (HT.out.pop hS)
          have hWy := Aside0.mk (HT.out.ways e (by simp))
          clear hS HT
          have e8 := Aside0.mk (show wrap64 (((E.length + 1 : Nat) : Int) - 1) = (E.length : Int) by rw [nw64 (by omega) (by omega)]; omega)
          go_upto_region 7 with (first | ((with_reducible refine gate_dst (N := 11) rfl ?_); (try (refine gate_guard (by rfl) ?_; dsimp only)); refine box_event ?hg (N := 11) ?hd (cs := #[.int .i64 0, .slice none 0 0]) (t := 86) ?hr ?_; (case hd => rfl); (case hg => rfl); (case hr => exact qq16); intro gb hg w29 hbox hb; have KK := Aside0.mk (tw_box hg hbox hb hTp.out hWy.out); have hcz0 : w29.cell? ⟨gb, 0, none⟩ = some (.int .i64 0) := (blk_cell hbox 0).trans rfl; have hcz1 : w29.cell? ⟨gb, 1, none⟩ = some (.slice none 0 0) := (blk_cell hbox 1).trans rfl; have hfz0 := blk_frozen hbox 0; have hfz1 := blk_frozen hbox 1; have hgb : b < gb := (by rw [hg]; exact hbl); clear hbox hb hg))
          clear hcz0 hcz1 hfz0 hfz1 x0 x1 hbl hTp hWy
          replace KK := KK.out
          unfold put2 at KK
          generalize ((w29.setCell ⟨gb, 0, none⟩ (.int .i64 e.nd)).setCell ⟨gb, 1, none⟩ (.slice e.A e.way.length e.cap)) = w4 at KK ⊢
          obtain ⟨hT4, hW4, hB4⟩ := KK
          have y0 : w4.cell? ⟨gb, 0, none⟩ = some (.int .i64 e.nd) := (blk_cell hB4 0).trans rfl
          have y1 : w4.cell? ⟨gb, 1, none⟩ = some (.slice e.A e.way.length e.cap) := (blk_cell hB4 1).trans rfl
          have HT4 := Aside0.mk hT4
          have HW4 := Aside0.mk hW4
          have HB4 := Aside0.mk hB4
          clear hT4 hW4 hB4
          by_cases ch : e.nd = a3
          · have hh := H.out
            rw [if_pos ch] at hh
            obtain rfl := Option.some.inj hh
            have cb : (e.nd == a3) = true := beq_iff_eq.mpr ch
            clear H hh
            go_wp2
            go_ret
            exact ⟨_, rfl, HW4.out, HT4.out.be⟩
          · have hh := H.out
            rw [if_neg ch] at hh
            have cb : (e.nd == a3) = false := beq_eq_false_iff_ne.mpr ch
            obtain ⟨⟨st2, sn2⟩, hin, hh⟩ := Option.bind_eq_some_iff.1 hh
            have HI := Aside0.mk hin
            replace H := Aside0.mk hh
            clear hin hh ch
            go_wp2
            clear y0 y1 cb
            go_loopw [9, 46] (fun v9 v46 wr => ∃ (j : Nat) (sn : List Bool) (E : List Bs), v46 = .int .i64 j ∧ j ≤ l1.length ∧ Aside0 (tin l0 e.nd e.way (l1.drop j) (brs E) sn = some (st2, sn2)) ∧ E.length ≤ 1000 ∧ Aside0 (∀ x ∈ E, x.way.length ≤ 1000) ∧ Aside0 (In w wr (w.heap.size + 1) sn v9 E e gb)) (fun _ v46 _ => l1.length - (intOf v46).toNat)
            case atStart => exact ⟨0, sn, E, rfl, Nat.zero_le _, by rw [List.drop_zero]; exact HI, by omega, ⟨fun x hx => HE.out x (List.mem_append_left _ hx)⟩, ⟨HT4.out, HW4.out, HB4.out, by simp [Value.ownBlock]; omega⟩⟩
            case round =>
              clear HI HT4 HW4 HB4 HE hE hcap hgb
              obtain ⟨j, sn, E, rfl, hj, HV, hE, HE, HIn⟩ := hrel
              by_cases hlt : j < l1.length
              · have hvv := HV.out
                clear HV
                rw [List.drop_eq_getElem_cons hlt, tin] at hvv
                have hb2 := HIn.out.tw.be
                obtain ⟨ad, e0, x0⟩ := Kd.at_int HR1.out (j : Int) (by omega) (by omega)
                subst e0
                rw [show rd l1 (j : Int) = l1[j] from rd_eq l1 j hlt] at x0
                rw [Int.toNat_natCast] at x0
                replace x0 := (hb2.cell (World.block_lt_of_cell? w _ x0)).trans x0
                generalize l1[j] = x at hvv x0
                obtain ⟨⟨q1, q2⟩, htone, hin⟩ := Option.bind_eq_some_iff.1 hvv
                unfold tone at htone
                dsimp only at hin
                have p1 := eq_true (show (j : Int) < (l1.length : Int) by omega)
                have p0 := eq_true (show (0 : Int) ≤ (j : Int) by omega)
                have e7 := Aside0.mk (show wrap64 ((j : Int) + 1) = ((j + 1 : Nat) : Int) by rw [nw64 (by omega) (by have := HL1.out; omega)]; omega)
                by_cases hx : 0 ≤ x ∧ x < (l0.length : Int)
                · rw [if_pos hx] at htone
                  obtain ⟨ad0, e0, xr0, xr1, xr2, xr3⟩ := at_T32 HR0.out x hx.1 hx.2
                  subst e0
                  replace xr0 := (hb2.cell (World.block_lt_of_cell? w _ xr0)).trans xr0
                  replace xr1 := (hb2.cell (World.block_lt_of_cell? w _ xr1)).trans xr1
                  have s0 := eq_true hx.1
                  have s1 := eq_true hx.2
                  have y0 : wr.cell? ⟨gb, 0, none⟩ = some (.int .i64 e.nd) := (blk_cell HIn.out.bx 0).trans rfl
                  clear xr2 xr3 hx hb2 hvv
                  by_cases c1 : (rd_T32 l0 x).f1 = e.nd
                  · rw [if_pos c1] at htone
                    have cb1 : ((rd_T32 l0 x).f1 == e.nd) = true := beq_iff_eq.mpr c1
                    go_upto_region 16 with (fail)
                    repeat (go_quiet (fail); go_upto_region 16 with (fail))
                    (try simp only [World.drewN_drewN])
                    generalize hq_ : World.drewN wr _ = wq
                    have HIq := Aside0.mk (show In w wq (w.heap.size + 1) sn u9 E e gb from hq_ ▸ HIn.out.below (pw_below_drewN (Below.refl _ _) _))
                    clear hq_ HIn x0 xr0 xr1 y0 cb1 c1 s0 s1
                    have HIn := HIq
                    clear HIq
                    have hst := htone
                    unfold tstep at hst
                    by_cases hnx : 0 ≤ (rd_T32 l0 x).f0 ∧ (rd_T32 l0 x).f0 < (sn.length : Int)
                    · rw [if_pos hnx] at hst
                      have z0 := HIn.out.tw.cell (rd_T32 l0 x).f0 hnx.1 hnx.2
                      have r0 := eq_true hnx.1
                      have r1 := eq_true (show (rd_T32 l0 x).f0 < 6 by rw [HIn.out.tw.len] at hnx; exact hnx.2)
                      by_cases cs : rdOf false sn (rd_T32 l0 x).f0 = true
                      · rw [if_pos cs] at hst
                        obtain ⟨rfl, rfl⟩ : brs E = q1 ∧ sn = q2 := by simpa using hst
                        have HV := Aside0.mk hin
                        clear hst htone hin hnx
                        go_wp2
                        go_roundw
                        case rel => exact ⟨j + 1, sn, E, qq69, by omega, HV, hE, HE, HIn⟩
                        case measure => first | exact tmeas2 hlt | exact tmeas hlt e7.out
                      · rw [if_neg cs] at hst
                        have cs2 : rdOf false sn (rd_T32 l0 x).f0 = false := Bool.eq_false_iff.2 cs
                        by_cases hbd : (brs E).length < 1000 ∧ e.way.length < 1000
                        · rw [if_pos hbd] at hst
                          obtain ⟨rfl, rfl⟩ : brs E ++ [((rd_T32 l0 x).f0, e.way ++ [(wrap64 (-(wrap64 (x + 1))))])] = q1 ∧ sn.set ((rd_T32 l0 x).f0).toNat true = q2 := by simpa using hst
                          rw [brs_len] at hbd
                          have HV := Aside0.mk hin
                          clear hst htone hin hnx cs
                          have f0 := blk_frozen HIn.out.tw.seen ((rd_T32 l0 x).f0).toNat
                          go_upto_region 18 with (fail)
                          have hI5 := HIn.out.see ((rd_T32 l0 x).f0).toNat
                          clear z0 f0 r0 r1 cs2 HIn
                          generalize wq.setCell ⟨w.heap.size + 1, ((rd_T32 l0 x).f0).toNat, none⟩ (.bool true) = w5 at hI5 ⊢
                          have HI5 := Aside0.mk hI5
                          have y1 : (w5.alloc (.cells #[] 3)).cell? ⟨gb, 1, none⟩ = some (.slice e.A e.way.length e.cap) := (World.cell?_of_block (a := ⟨gb, 1, none⟩) (heap_alloc_old w5 (.cells #[] 3) (blk_lt hI5.bx))).trans ((blk_cell hI5.bx 1).trans rfl)
                          clear hI5
                          go_upto_region 19 with (first
                            | ((with_reducible refine gate_builtin (b := .append) (xs := #[.tmp 89, .tmp 91]) rfl ?_); (try (refine gate_guard (by rfl) ?_; dsimp only)); at_builtin; refine Kd.R_append_row (α := Int) (Value.int .i64) 0 (w0 := w5) w5.heap.size rfl (.tmp 89) (.tmp 91) 27 3 (.int .i64 0) 8 rfl Try.underlying27 infoIn rfl (by decide) (.slice (some ⟨w5.heap.size, 0, none⟩) 0 0) [] e.way e.A e.way.length e.cap (fun _ => True) (by rfl) (by rfl) (fun _ _ => trivial) (Kd.R_of_own (α := Int) (World.ownsRow_lit (base := w5.heap.size) (e := 3) (size := 1) w5 #[] 0 (Nat.le_refl _) (by unfold maxLen; omega) rfl) (fun _ _ => trivial)) (Kd.C_alloc (Kd.R_reads' HI5.out.wy).2.2 _) ((Below.refl _ _).alloc (Nat.le_refl _) _) (by simp) (by simp; omega) ?_; intro v270 w54 ho hb hg hat; have HO2 := Aside0.mk ho; have HB2 := Aside0.mk hb; clear ho hb hg hat y1)
                            | ((with_reducible refine gate_builtin (b := .append) (xs := #[.tmp 92, .tmp 94]) rfl ?_); (try (refine gate_guard (by rfl) ?_; dsimp only)); at_builtin; refine Kd.R_append (Kd.int .i64) (w0 := w5) w5.heap.size rfl (.tmp 92) (.tmp 94) 27 3 (.int .i64 0) 8 rfl Try.underlying27 infoIn rfl (by decide) (by omega) v270 ([] ++ e.way) (wrap64 (-(wrap64 (x + 1)))) [.int .i64 (wrap64 (-(wrap64 (x + 1))))] (fun _ => True) (fun _ => False) (by rfl) qq16 rfl (fun _ hk => hk.elim) (fun _ _ => trivial) HO2.out HB2.out HB2.out.size (by simp; omega) ?_; intro v271 w55 ho hb hg hat; have HO3 := Aside0.mk ho; have HB3 := Aside0.mk hb; clear ho hb hg hat))
                          have hO3 := HO3.out
                          rw [List.nil_append] at hO3
                          obtain ⟨A9, cap9, rfl, hc9, _⟩ := Kd.R_reads hO3
                          have HW9 := Aside0.mk (show WayR w.heap.size w55 ⟨(rd_T32 l0 x).f0, e.way ++ [(wrap64 (-(wrap64 (x + 1))))], A9, cap9⟩ from Kd.R_lower hO3 HI5.out.tw.be.size)
                          have HI6 := Aside0.mk (HI5.out.below HB3.out)
                          clear hO3 hc9 HO3 HB3 HI5
                          go_wp2_with (first | ((with_reducible refine gate_builtin (b := .append) (xs := #[.tmp 96, .tmp 100]) rfl ?_); (try (refine gate_guard (by rfl) ?_; dsimp only)); at_builtin; refine wpList_append_own_at _ (by rfl) _ _ 87 (by rfl) w.heap.size 86 iB (.agg #[.int .i64 0, .slice none 0 0]) 2 32 Try.underlying87 hiB hzB0 hzB1 hzB2 rfl (by decide) u9 E.length (ecells E) (by rfl) (HI6.out.tw.stk.alloc _) ⟨w55.heap.size, 0, none⟩ 1 1 [.int .i64 (rd_T32 l0 x).f0, .slice A9 (e.way.length + 1) cap9] (by rfl) rfl (World.news_of_block (cs := #[.int .i64 (rd_T32 l0 x).f0, .slice A9 (e.way.length + 1) cap9]) (t := 86) (fr := (0, 0)) (heap_alloc_new w55 _)) (by simp [Value.oneCell']) (by unfold maxLen; omega) (by omega) (Nat.le_trans HI6.out.tw.be.size (by simp)) ?_; intro v' w1 hown' hgrow hnil hloc; have HI7 := Aside0.mk ((HI6.out.below ((Below.refl _ _).alloc (Nat.le_refl _) _)).push (HW9.out.below ((Below.refl _ _).alloc (Nat.le_refl _) _)) hgrow (by simpa [bcells] using hown') hloc); clear hown' hgrow hnil hloc))
                          go_roundw
                          case rel => exact ⟨j + 1, _, E ++ [⟨(rd_T32 l0 x).f0, e.way ++ [(wrap64 (-(wrap64 (x + 1))))], A9, cap9⟩], qq69, by omega, ⟨by rw [brs_snoc]; exact HV.out⟩, qq68, ⟨fun y hy => by
                            rcases List.mem_append.1 hy with z | z
                            · exact HE.out y z
                            · rw [List.mem_singleton.1 z, List.length_append, List.length_singleton]; omega⟩, HI7⟩
                          case measure => first | exact tmeas2 hlt | exact tmeas hlt e7.out
                        · rw [if_neg hbd] at hst
                          exact absurd hst (by simp)
                    · rw [if_neg hnx] at hst
                      exact absurd hst (by simp)
                  · rw [if_neg c1] at htone
                    have cb1 : ((rd_T32 l0 x).f1 == e.nd) = false := beq_eq_false_iff_ne.mpr c1
                    by_cases c2 : (rd_T32 l0 x).f0 = e.nd
                    · rw [if_pos c2] at htone
                      have cb2 : ((rd_T32 l0 x).f0 != e.nd) = false := by simpa using c2
                      go_upto_region 16 with (fail)
                      repeat (go_quiet (fail); go_upto_region 16 with (fail))
                      (try simp only [World.drewN_drewN])
                      generalize hq_ : World.drewN wr _ = wq
                      have HIq := Aside0.mk (show In w wq (w.heap.size + 1) sn u9 E e gb from hq_ ▸ HIn.out.below (pw_below_drewN (Below.refl _ _) _))
                      clear hq_ HIn x0 xr0 xr1 y0 cb1 c1 cb2 c2 s0 s1
                      have HIn := HIq
                      clear HIq
                      have hst := htone
                      unfold tstep at hst
                      by_cases hnx : 0 ≤ (rd_T32 l0 x).f1 ∧ (rd_T32 l0 x).f1 < (sn.length : Int)
                      · rw [if_pos hnx] at hst
                        have z0 := HIn.out.tw.cell (rd_T32 l0 x).f1 hnx.1 hnx.2
                        have r0 := eq_true hnx.1
                        have r1 := eq_true (show (rd_T32 l0 x).f1 < 6 by rw [HIn.out.tw.len] at hnx; exact hnx.2)
                        by_cases cs : rdOf false sn (rd_T32 l0 x).f1 = true
                        · rw [if_pos cs] at hst
                          obtain ⟨rfl, rfl⟩ : brs E = q1 ∧ sn = q2 := by simpa using hst
                          have HV := Aside0.mk hin
                          clear hst htone hin hnx
                          go_wp2
                          go_roundw
                          case rel => exact ⟨j + 1, sn, E, qq69, by omega, HV, hE, HE, HIn⟩
                          case measure => first | exact tmeas2 hlt | exact tmeas hlt e7.out
                        · rw [if_neg cs] at hst
                          have cs2 : rdOf false sn (rd_T32 l0 x).f1 = false := Bool.eq_false_iff.2 cs
                          by_cases hbd : (brs E).length < 1000 ∧ e.way.length < 1000
                          · rw [if_pos hbd] at hst
                            obtain ⟨rfl, rfl⟩ : brs E ++ [((rd_T32 l0 x).f1, e.way ++ [(wrap64 (x + 1))])] = q1 ∧ sn.set ((rd_T32 l0 x).f1).toNat true = q2 := by simpa using hst
                            rw [brs_len] at hbd
                            have HV := Aside0.mk hin
                            clear hst htone hin hnx cs
                            have f0 := blk_frozen HIn.out.tw.seen ((rd_T32 l0 x).f1).toNat
                            go_upto_region 18 with (fail)
                            have hI5 := HIn.out.see ((rd_T32 l0 x).f1).toNat
                            clear z0 f0 r0 r1 cs2 HIn
                            generalize wq.setCell ⟨w.heap.size + 1, ((rd_T32 l0 x).f1).toNat, none⟩ (.bool true) = w5 at hI5 ⊢
                            have HI5 := Aside0.mk hI5
                            have y1 : (w5.alloc (.cells #[] 3)).cell? ⟨gb, 1, none⟩ = some (.slice e.A e.way.length e.cap) := (World.cell?_of_block (a := ⟨gb, 1, none⟩) (heap_alloc_old w5 (.cells #[] 3) (blk_lt hI5.bx))).trans ((blk_cell hI5.bx 1).trans rfl)
                            clear hI5
                            go_upto_region 19 with (first
                              | ((with_reducible refine gate_builtin (b := .append) (xs := #[.tmp 89, .tmp 91]) rfl ?_); (try (refine gate_guard (by rfl) ?_; dsimp only)); at_builtin; refine Kd.R_append_row (α := Int) (Value.int .i64) 0 (w0 := w5) w5.heap.size rfl (.tmp 89) (.tmp 91) 27 3 (.int .i64 0) 8 rfl Try.underlying27 infoIn rfl (by decide) (.slice (some ⟨w5.heap.size, 0, none⟩) 0 0) [] e.way e.A e.way.length e.cap (fun _ => True) (by rfl) (by rfl) (fun _ _ => trivial) (Kd.R_of_own (α := Int) (World.ownsRow_lit (base := w5.heap.size) (e := 3) (size := 1) w5 #[] 0 (Nat.le_refl _) (by unfold maxLen; omega) rfl) (fun _ _ => trivial)) (Kd.C_alloc (Kd.R_reads' HI5.out.wy).2.2 _) ((Below.refl _ _).alloc (Nat.le_refl _) _) (by simp) (by simp; omega) ?_; intro v270 w54 ho hb hg hat; have HO2 := Aside0.mk ho; have HB2 := Aside0.mk hb; clear ho hb hg hat y1)
                              | ((with_reducible refine gate_builtin (b := .append) (xs := #[.tmp 92, .tmp 94]) rfl ?_); (try (refine gate_guard (by rfl) ?_; dsimp only)); at_builtin; refine Kd.R_append (Kd.int .i64) (w0 := w5) w5.heap.size rfl (.tmp 92) (.tmp 94) 27 3 (.int .i64 0) 8 rfl Try.underlying27 infoIn rfl (by decide) (by omega) v270 ([] ++ e.way) (wrap64 (x + 1)) [.int .i64 (wrap64 (x + 1))] (fun _ => True) (fun _ => False) (by rfl) qq16 rfl (fun _ hk => hk.elim) (fun _ _ => trivial) HO2.out HB2.out HB2.out.size (by simp; omega) ?_; intro v271 w55 ho hb hg hat; have HO3 := Aside0.mk ho; have HB3 := Aside0.mk hb; clear ho hb hg hat))
                            have hO3 := HO3.out
                            rw [List.nil_append] at hO3
                            obtain ⟨A9, cap9, rfl, hc9, _⟩ := Kd.R_reads hO3
                            have HW9 := Aside0.mk (show WayR w.heap.size w55 ⟨(rd_T32 l0 x).f1, e.way ++ [(wrap64 (x + 1))], A9, cap9⟩ from Kd.R_lower hO3 HI5.out.tw.be.size)
                            have HI6 := Aside0.mk (HI5.out.below HB3.out)
                            clear hO3 hc9 HO3 HB3 HI5
                            go_wp2_with (first | ((with_reducible refine gate_builtin (b := .append) (xs := #[.tmp 96, .tmp 100]) rfl ?_); (try (refine gate_guard (by rfl) ?_; dsimp only)); at_builtin; refine wpList_append_own_at _ (by rfl) _ _ 87 (by rfl) w.heap.size 86 iB (.agg #[.int .i64 0, .slice none 0 0]) 2 32 Try.underlying87 hiB hzB0 hzB1 hzB2 rfl (by decide) u9 E.length (ecells E) (by rfl) (HI6.out.tw.stk.alloc _) ⟨w55.heap.size, 0, none⟩ 1 1 [.int .i64 (rd_T32 l0 x).f1, .slice A9 (e.way.length + 1) cap9] (by rfl) rfl (World.news_of_block (cs := #[.int .i64 (rd_T32 l0 x).f1, .slice A9 (e.way.length + 1) cap9]) (t := 86) (fr := (0, 0)) (heap_alloc_new w55 _)) (by simp [Value.oneCell']) (by unfold maxLen; omega) (by omega) (Nat.le_trans HI6.out.tw.be.size (by simp)) ?_; intro v' w1 hown' hgrow hnil hloc; have HI7 := Aside0.mk ((HI6.out.below ((Below.refl _ _).alloc (Nat.le_refl _) _)).push (HW9.out.below ((Below.refl _ _).alloc (Nat.le_refl _) _)) hgrow (by simpa [bcells] using hown') hloc); clear hown' hgrow hnil hloc))
                            go_roundw
                            case rel => exact ⟨j + 1, _, E ++ [⟨(rd_T32 l0 x).f1, e.way ++ [(wrap64 (x + 1))], A9, cap9⟩], qq69, by omega, ⟨by rw [brs_snoc]; exact HV.out⟩, qq68, ⟨fun y hy => by
                              rcases List.mem_append.1 hy with z | z
                              · exact HE.out y z
                              · rw [List.mem_singleton.1 z, List.length_append, List.length_singleton]; omega⟩, HI7⟩
                            case measure => first | exact tmeas2 hlt | exact tmeas hlt e7.out
                          · rw [if_neg hbd] at hst
                            exact absurd hst (by simp)
                      · rw [if_neg hnx] at hst
                        exact absurd hst (by simp)
                    · rw [if_neg c2] at htone
                      have cb2 : ((rd_T32 l0 x).f0 != e.nd) = true := by simpa using c2
                      obtain ⟨rfl, rfl⟩ : brs E = q1 ∧ sn = q2 := by simpa using htone
                      have HV := Aside0.mk hin
                      clear htone hin
                      go_wp2
                      repeat (go_quiet (fail); try go_wp2)
                      go_roundw
                      case rel => exact ⟨j + 1, sn, E, qq69, by omega, HV, hE, HE, ⟨by repeat (first | exact HIn.out | refine In.below ?_ (pw_below_drewN (Below.refl _ _) _))⟩⟩
                      case measure => first | exact tmeas2 hlt | exact tmeas hlt e7.out
                · rw [if_neg hx] at htone
                  exact absurd htone (by simp)
              · obtain rfl : j = l1.length := by omega
                have hvv := HV.out
                rw [List.drop_length, tin] at hvv
                obtain ⟨rfl, rfl⟩ : brs E = st2 ∧ sn = sn2 := by simpa using hvv
                clear hvv HV
                have p1 := eq_false (show ¬ (l1.length : Int) < (l1.length : Int) by omega)
                go_wp2
                go_roundg k1
                case measure => have := HK.out; omega
                case rel => exact ⟨sn, E, H, ⟨by have := HK.out; omega⟩, hE, HE, ⟨HIn.out.tw⟩⟩
  · rw [if_neg c] at h
    exact absurd h (by simp)
end Go.Proofs.Ytmcfhmflncghiaa.TreeW
namespace Go.Proofs.Ytmcfhmflncghiaa.Q
open Go.RowKit Go.Proofs.YtmcfhmflncghiaaW.PrintWords Go.Proofs.YtmcfhmflncghiaaW.PrintLast Go.Proofs.YtmcfhmflncghiaaW.PrintMore
attribute [local go_sem] max2_int min2_int max_two min_two max_three min_three max_four min_four
set_option linter.unusedVariables false
set_option linter.unusedSimpArgs false

/-! ### impl_treeWay: function 49 -/
def impl_treeWay.f (l0 : List (S32)) (l1 : List Int) (a2 : Int) (a3 : Int) : Option (List Int) := Go.Proofs.Ytmcfhmflncghiaa.TreeW.treeR 100 l0 l1 a2 a3
theorem impl_treeWay.calls (A0 : Option Addr) (c0 : Nat) (l0 : List (S32)) (A1 : Option Addr) (c1 : Nat) (l1 : List Int) (a2 : Int) (a3 : Int) (r : List Int) (w : World) (hr0 : Kd.C k32 w A0 l0.length l0) (hc0 : l0.length ≤ c0) (hr1 : Kd.C (Kd.int .i64) w A1 l1.length l1) (hc1 : l1.length ≤ c1) (h : impl_treeWay.f l0 l1 a2 a3 = some r) :
    Calls Try.prog 49 #[.slice A0 l0.length c0, .slice A1 l1.length c1, .int .i64 a2, .int .i64 a3] w fun e w' => ∃ v0_ : Value, e = .returned (v0_) ∧ Kd.R (Kd.int .i64) 3 w' w.heap.size (fun _ => True) v0_ r ∧ Below w.heap.size w w' :=
  Go.Proofs.Ytmcfhmflncghiaa.TreeW.tree_calls 100 A0 c0 l0 A1 c1 l1 a2 a3 r w hr0 hc0 hr1 hc1 h

end Go.Proofs.Ytmcfhmflncghiaa.Q
namespace Go.Proofs.Ytmcfhmflncghiaa.Q
open Go.RowKit Go.Proofs.YtmcfhmflncghiaaW.PrintWords Go.Proofs.YtmcfhmflncghiaaW.PrintLast Go.Proofs.YtmcfhmflncghiaaW.PrintMore
attribute [local go_sem] max2_int min2_int max_two min_two max_three min_three max_four min_four
set_option linter.unusedVariables false
set_option linter.unusedSimpArgs false

/-! ### impl_LoopOf: function 30 -/
def impl_LoopOf.f (k : Nat) (a0 : Int) (l1 : List (S32)) (a2 : Int) : Option (List Int × Bool) := (impl_TreeFirst.f k a0 l1).bind fun bt245 => (if bt245.2 = true then (if a2 < 0 then (some ((([] : List Int)), false)) else (if a2 ≥ (l1.length : Int) then (some ((([] : List Int)), false)) else ((slices_Contains_int_int.f k bt245.1 a2).bind fun t255 => (if t255 = true then (some ((([] : List Int)), false)) else ((some (([wrap64 (a2 + 1)] : List Int) : List Int)).bind fun y259 => (if 0 ≤ a2 then (if a2 < (l1.length : Int) then ((impl_treeWay.f l1 bt245.1 ((rd_T32 l1 a2).f1) ((rd_T32 l1 a2).f0)).bind fun t264 => (if y259.length + t264.length < 17592186044416 then (some ((y259 ++ t264), true)) else (none))) else (none)) else (none))))))) else (some ((([] : List Int)), false)))
def impl_LoopOf.T4 : Bool × List (List Nat × List Nat) := (true, [([], []), ([0], [0]), ([1], [1]), ([], []), ([], []), ([], []), ([], []), ([5, 6], [5, 6]), ([7], [7]), ([8], [8]), ([], []), ([], []), ([10, 11], [10, 11]), ([12], [12]), ([13], [13]), ([3, 4, 9, 14], [3, 4, 9, 14]), ([2, 15, 15], [2, 15]), ([16, 16, 0, 1, 2, 3, 4, 5, 6, 7, 8, 9, 10, 11, 12, 13, 14, 15, 16], [16]), ([17, 0, 1, 2, 3, 4, 5, 6, 7, 8, 9, 10, 11, 12, 13, 14, 15, 16, 17], [])])
def impl_LoopOf.B4 : List Nat := [0, 1, 3, 0, 0, 0, 0, 96, 224, 480, 0, 0, 3072, 7168, 15360, 32760, 65535, 131071, 262143]
theorem impl_LoopOf.tab4 : rtab .any (opsOf Try.f30 4) = impl_LoopOf.T4 := by kernel_rfl
theorem impl_LoopOf.bits4 : waitsOk impl_LoopOf.T4.2 impl_LoopOf.B4 = true := by kernel_rfl
set_option maxHeartbeats 8000000 in
set_option maxRecDepth 100000 in
theorem impl_LoopOf.calls (k : Nat) (a0 : Int) (A1 : Option Addr) (c1 : Nat) (l1 : List (S32)) (a2 : Int) (r1 : List Int) (r2 : Bool) (w : World) (hr1 : Kd.C k32 w A1 l1.length l1) (hc1 : l1.length ≤ c1) (h : impl_LoopOf.f k a0 l1 a2 = some (r1, r2)) :
    Calls Try.prog 30 #[.int .i64 a0, .slice A1 l1.length c1, .int .i64 a2] w fun e w' => ∃ v0_ : Value, e = .returned (.tuple #[v0_, .bool r2]) ∧ Kd.R (Kd.int .i64) 3 w' w.heap.size (fun _ => True) v0_ r1 ∧ Below w.heap.size w w' := by
  have HR1 := Aside0.mk hr1
  have HC1 := Aside0.mk hc1
  clear hr1 hc1
  have HB := Aside0.mk (Below.refl w.heap.size w)
  have H : ((impl_TreeFirst.f k a0 l1).bind fun bt245 => (if bt245.2 = true then (if a2 < 0 then (some ((([] : List Int)), false)) else (if a2 ≥ (l1.length : Int) then (some ((([] : List Int)), false)) else ((slices_Contains_int_int.f k bt245.1 a2).bind fun t255 => (if t255 = true then (some ((([] : List Int)), false)) else ((some (([wrap64 (a2 + 1)] : List Int) : List Int)).bind fun y259 => (if 0 ≤ a2 then (if a2 < (l1.length : Int) then ((impl_treeWay.f l1 bt245.1 ((rd_T32 l1 a2).f1) ((rd_T32 l1 a2).f0)).bind fun t264 => (if y259.length + t264.length < 17592186044416 then (some ((y259 ++ t264), true)) else (none))) else (none)) else (none))))))) else (some ((([] : List Int)), false)))) = some (r1, r2) := h
  clear h
  replace H := Option.bind_eq_some_iff.mp H
  obtain ⟨⟨t245, t246⟩, A40, H⟩ := H
  replace H : (if t246 = true then (if a2 < 0 then (some ((([] : List Int)), false)) else (if a2 ≥ (l1.length : Int) then (some ((([] : List Int)), false)) else ((slices_Contains_int_int.f k t245 a2).bind fun t255 => (if t255 = true then (some ((([] : List Int)), false)) else ((some (([wrap64 (a2 + 1)] : List Int) : List Int)).bind fun y259 => (if 0 ≤ a2 then (if a2 < (l1.length : Int) then ((impl_treeWay.f l1 t245 ((rd_T32 l1 a2).f1) ((rd_T32 l1 a2).f0)).bind fun t264 => (if y259.length + t264.length < 17592186044416 then (some ((y259 ++ t264), true)) else (none))) else (none)) else (none))))))) else (some ((([] : List Int)), false))) = some (r1, r2) := H
  have A4 := Aside0.mk A40
  clear A40
  by_cases c5 : t246 = true
  · subst c5
    have H1 : (if a2 < 0 then (some ((([] : List Int)), false)) else (if a2 ≥ (l1.length : Int) then (some ((([] : List Int)), false)) else ((slices_Contains_int_int.f k t245 a2).bind fun t255 => (if t255 = true then (some ((([] : List Int)), false)) else ((some (([wrap64 (a2 + 1)] : List Int) : List Int)).bind fun y259 => (if 0 ≤ a2 then (if a2 < (l1.length : Int) then ((impl_treeWay.f l1 t245 ((rd_T32 l1 a2).f1) ((rd_T32 l1 a2).f0)).bind fun t264 => (if y259.length + t264.length < 17592186044416 then (some ((y259 ++ t264), true)) else (none))) else (none)) else (none))))))) = some (r1, r2) := by rw [if_pos rfl] at H; exact H
    clear H
    have H := H1
    clear H1
    by_cases c6 : a2 < 0
    · rw [if_pos c6] at H
      have c6b0 : decide (a2 < 0) = true := decide_eq_true c6
      clear c6
      obtain ⟨y249, hy249⟩ : ∃ y_ : List Int, y_ = (([] : List Int)) := ⟨_, rfl⟩
      replace H : (some (y249, false)) = some (r1, r2) := by first | (rw [hy249]; with_reducible exact H) | (have H2_ := (Option.bind_some _ _).symm.trans H; rw [hy249]; with_reducible exact H2_) | (have H2_ := (Option.bind_some _ _).symm.trans H; with_reducible exact H2_) | with_reducible exact H | (rw [hy249]; exact H) | exact H
      have Ny249 := Aside0.mk hy249
      clear hy249
      simp only [Option.some.injEq, Prod.mk.injEq] at H
      obtain ⟨rfl, rfl⟩ := H
      go_enter Try.func30, Try.ntmps30
      go_wp2_with (first | ((with_reducible refine gate_callee (f := 10) rfl ?_); refine goesL_ (some 13) rfl rfl Try.func10 (by kernel_rfl) rfl #[.int .i64 a0, .slice A1 l1.length c1] rfl qq5 ?_; (with_reducible refine (impl_TreeFirst.calls k a0 _ _ l1 t245 true _ ?side1 ?side2 A4.out).mono ?_); (case side1 => exact qq15 HR1.out); (case side2 => exact HC1.out); rintro e w7 ⟨v247, rfl, ho0, hb⟩; refine ⟨_, rfl, ?_⟩; have n0_ := Aside0.mk (Kd.R_lower ho0 (below_size qq1)); have n1_ := Aside0.mk (below_step qq1 hb); clear HB; have HO248 := n0_; have HB := n1_; clear n0_ n1_; (try clear hb); (try clear hb2); (try clear hk); (try clear hi); (try clear ho0)) | ((with_reducible refine gate_dst (N := 33) rfl ?_); (try (refine gate_guard (by rfl) ?_; dsimp only)); refine Kd.R_lit (Kd.int .i64) _ 3 ?hg (N := 33) ?hd (xs := ([] : List Int)) (inner := []) (ok := fun _ => True) (okp := fun _ => True) ?hr ?hp (fun _ hk => hk) trivial (Below.refl _ _) (Nat.le_refl _) (by simp) ?_; (case hd => rfl); (case hg => rfl); (case hr => exact qq16); (case hp => exact (Reps.none _ _)); intro v250 w8 ho9 hb hg_ hnew_; clear hg_ hnew_; (first | rw [← Ny249.out] at ho9 | (simp only [Int.reduceToNat] at ho9; rw [← Ny249.out] at ho9)); have n0_ := Aside0.mk (Kd.R_elder' (qq2 HO248.out) (Kd.R_base ho9) hb); have n1_ := Aside0.mk (Kd.R_lower (Kd.R_new' ho9 (Kd.R_lt (qq2 HO248.out))) (below_size qq1)); have n2_ := Aside0.mk (below_step qq1 hb); clear HO248; clear HB; have HO248 := n0_; have HO251 := n1_; have HB := n2_; clear n0_ n1_ n2_; clear hb ho9))
      go_ret2
      exact ⟨_, qq11, qq17 HO251.out, qq1⟩
    · rw [if_neg c6] at H
      have c6b0 : decide (a2 < 0) = false := decide_eq_false c6
      clear c6
      by_cases c10 : a2 ≥ (l1.length : Int)
      · rw [if_pos c10] at H
        have c10b0 : decide ((l1.length : Int) ≤ a2) = true := decide_eq_true c10
        clear c10
        obtain ⟨y252, hy252⟩ : ∃ y_ : List Int, y_ = (([] : List Int)) := ⟨_, rfl⟩
        replace H : (some (y252, false)) = some (r1, r2) := by first | (rw [hy252]; with_reducible exact H) | (have H2_ := (Option.bind_some _ _).symm.trans H; rw [hy252]; with_reducible exact H2_) | (have H2_ := (Option.bind_some _ _).symm.trans H; with_reducible exact H2_) | with_reducible exact H | (rw [hy252]; exact H) | exact H
        have Ny252 := Aside0.mk hy252
        clear hy252
        simp only [Option.some.injEq, Prod.mk.injEq] at H
        obtain ⟨rfl, rfl⟩ := H
        go_enter Try.func30, Try.ntmps30
        go_wp2_with (first | ((with_reducible refine gate_callee (f := 10) rfl ?_); refine goesL_ (some 13) rfl rfl Try.func10 (by kernel_rfl) rfl #[.int .i64 a0, .slice A1 l1.length c1] rfl qq5 ?_; (with_reducible refine (impl_TreeFirst.calls k a0 _ _ l1 t245 true _ ?side1 ?side2 A4.out).mono ?_); (case side1 => exact qq15 HR1.out); (case side2 => exact HC1.out); rintro e w11 ⟨v247, rfl, ho0, hb⟩; refine ⟨_, rfl, ?_⟩; have n0_ := Aside0.mk (Kd.R_lower ho0 (below_size qq1)); have n1_ := Aside0.mk (below_step qq1 hb); clear HB; have HO248 := n0_; have HB := n1_; clear n0_ n1_; (try clear hb); (try clear hb2); (try clear hk); (try clear hi); (try clear ho0)) | ((with_reducible refine gate_dst (N := 33) rfl ?_); (try (refine gate_guard (by rfl) ?_; dsimp only)); refine Kd.R_lit (Kd.int .i64) _ 3 ?hg (N := 33) ?hd (xs := ([] : List Int)) (inner := []) (ok := fun _ => True) (okp := fun _ => True) ?hr ?hp (fun _ hk => hk) trivial (Below.refl _ _) (Nat.le_refl _) (by simp) ?_; (case hd => rfl); (case hg => rfl); (case hr => exact qq16); (case hp => exact (Reps.none _ _)); intro v253 w12 ho13 hb hg_ hnew_; clear hg_ hnew_; (first | rw [← Ny252.out] at ho13 | (simp only [Int.reduceToNat] at ho13; rw [← Ny252.out] at ho13)); have n0_ := Aside0.mk (Kd.R_elder' (qq2 HO248.out) (Kd.R_base ho13) hb); have n1_ := Aside0.mk (Kd.R_lower (Kd.R_new' ho13 (Kd.R_lt (qq2 HO248.out))) (below_size qq1)); have n2_ := Aside0.mk (below_step qq1 hb); clear HO248; clear HB; have HO248 := n0_; have HO254 := n1_; have HB := n2_; clear n0_ n1_ n2_; clear hb ho13))
        go_ret2
        exact ⟨_, qq11, qq17 HO254.out, qq1⟩
      · rw [if_neg c10] at H
        have c10b0 : decide ((l1.length : Int) ≤ a2) = false := decide_eq_false c10
        clear c10
        replace H := Option.bind_eq_some_iff.mp H
        obtain ⟨t255, A140, H⟩ := H
        replace H : (if t255 = true then (some ((([] : List Int)), false)) else ((some (([wrap64 (a2 + 1)] : List Int) : List Int)).bind fun y259 => (if 0 ≤ a2 then (if a2 < (l1.length : Int) then ((impl_treeWay.f l1 t245 ((rd_T32 l1 a2).f1) ((rd_T32 l1 a2).f0)).bind fun t264 => (if y259.length + t264.length < 17592186044416 then (some ((y259 ++ t264), true)) else (none))) else (none)) else (none)))) = some (r1, r2) := H
        have A14 := Aside0.mk A140
        clear A140
        by_cases c15 : t255 = true
        · subst c15
          have H1 : (some ((([] : List Int)), false)) = some (r1, r2) := by rw [if_pos rfl] at H; exact H
          clear H
          have H := H1
          clear H1
          obtain ⟨y256, hy256⟩ : ∃ y_ : List Int, y_ = (([] : List Int)) := ⟨_, rfl⟩
          replace H : (some (y256, false)) = some (r1, r2) := by first | (rw [hy256]; with_reducible exact H) | (have H2_ := (Option.bind_some _ _).symm.trans H; rw [hy256]; with_reducible exact H2_) | (have H2_ := (Option.bind_some _ _).symm.trans H; with_reducible exact H2_) | with_reducible exact H | (rw [hy256]; exact H) | exact H
          have Ny256 := Aside0.mk hy256
          clear hy256
          simp only [Option.some.injEq, Prod.mk.injEq] at H
          obtain ⟨rfl, rfl⟩ := H
          go_enter Try.func30, Try.ntmps30
          go_wp2_with (first | ((with_reducible refine gate_callee (f := 10) rfl ?_); refine goesL_ (some 13) rfl rfl Try.func10 (by kernel_rfl) rfl #[.int .i64 a0, .slice A1 l1.length c1] rfl qq5 ?_; (with_reducible refine (impl_TreeFirst.calls k a0 _ _ l1 t245 true _ ?side1 ?side2 A4.out).mono ?_); (case side1 => exact qq15 HR1.out); (case side2 => exact HC1.out); rintro e w16 ⟨v247, rfl, ho0, hb⟩; refine ⟨_, rfl, ?_⟩; have n0_ := Aside0.mk (Kd.R_lower ho0 (below_size qq1)); have n1_ := Aside0.mk (below_step qq1 hb); clear HB; have HO248 := n0_; have HB := n1_; clear n0_ n1_; (try clear hb); (try clear hb2); (try clear hk); (try clear hi); (try clear ho0); obtain ⟨Ao17, co17, eo17⟩ := Kd.R_slice HO248.out; subst eo17) | (go_at_call 48; (with_reducible refine (slices_Contains_int_int.calls k _ _ t245 a2 true _ ?side1 ?side2 A14.out).mono ?_); (case side1 => exact qq12 HO248.out); (case side2 => exact qq50 HO248.out); rintro e w' ⟨rfl, ⟨nd, rfl⟩⟩) | ((with_reducible refine gate_dst (N := 33) rfl ?_); (try (refine gate_guard (by rfl) ?_; dsimp only)); refine Kd.R_lit (Kd.int .i64) _ 3 ?hg (N := 33) ?hd (xs := ([] : List Int)) (inner := []) (ok := fun _ => True) (okp := fun _ => True) ?hr ?hp (fun _ hk => hk) trivial (Below.refl _ _) (Nat.le_refl _) (by simp) ?_; (case hd => rfl); (case hg => rfl); (case hr => exact qq16); (case hp => exact (Reps.none _ _)); intro v257 w18 ho19 hb hg_ hnew_; clear hg_ hnew_; (first | rw [← Ny256.out] at ho19 | (simp only [Int.reduceToNat] at ho19; rw [← Ny256.out] at ho19)); have n0_ := Aside0.mk (Kd.R_elder' (qq2 HO248.out) (Kd.R_base ho19) hb); have n1_ := Aside0.mk (Kd.R_lower (Kd.R_new' ho19 (Kd.R_lt (qq2 HO248.out))) (below_size qq1)); have n2_ := Aside0.mk (below_step qq1 hb); clear HO248; clear HB; have HO248 := n0_; have HO258 := n1_; have HB := n2_; clear n0_ n1_ n2_; clear hb ho19))
          go_ret2
          exact ⟨_, qq11, qq17 HO258.out, qq1⟩
        · replace c15 := Bool.eq_false_iff.mpr c15
          subst c15
          have H1 : ((some (([wrap64 (a2 + 1)] : List Int) : List Int)).bind fun y259 => (if 0 ≤ a2 then (if a2 < (l1.length : Int) then ((impl_treeWay.f l1 t245 ((rd_T32 l1 a2).f1) ((rd_T32 l1 a2).f0)).bind fun t264 => (if y259.length + t264.length < 17592186044416 then (some ((y259 ++ t264), true)) else (none))) else (none)) else (none))) = some (r1, r2) := by rw [if_neg (show ¬ (false = true) by decide)] at H; exact H
          clear H
          have H := H1
          clear H1
          obtain ⟨y259, hy259⟩ : ∃ y_ : List Int, y_ = (([wrap64 (a2 + 1)] : List Int)) := ⟨_, rfl⟩
          replace H : (if 0 ≤ a2 then (if a2 < (l1.length : Int) then ((impl_treeWay.f l1 t245 ((rd_T32 l1 a2).f1) ((rd_T32 l1 a2).f0)).bind fun t264 => (if y259.length + t264.length < 17592186044416 then (some ((y259 ++ t264), true)) else (none))) else (none)) else (none)) = some (r1, r2) := by first | (rw [hy259]; with_reducible exact H) | (have H2_ := (Option.bind_some _ _).symm.trans H; rw [hy259]; with_reducible exact H2_) | (have H2_ := (Option.bind_some _ _).symm.trans H; with_reducible exact H2_) | with_reducible exact H | (rw [hy259]; exact H) | exact H
          have Ny259 := Aside0.mk hy259
          clear hy259
          by_cases c20 : 0 ≤ a2
          · rw [if_pos c20] at H
            have c20b0 : decide (0 ≤ a2) = true := decide_eq_true c20
            clear c20
            by_cases c21 : a2 < (l1.length : Int)
            · rw [if_pos c21] at H
              have c21b0 : decide (a2 < (l1.length : Int)) = true := decide_eq_true c21
              clear c21
              replace H := Option.bind_eq_some_iff.mp H
              obtain ⟨t264, A220, H⟩ := H
              replace H : (if y259.length + t264.length < 17592186044416 then (some ((y259 ++ t264), true)) else (none)) = some (r1, r2) := H
              have A22 := Aside0.mk A220
              clear A220
              by_cases c23 : y259.length + t264.length < 17592186044416
              · rw [if_pos c23] at H
                have LMc23 := Aside0.mk c23
                clear c23
                obtain ⟨y267, hy267⟩ : ∃ y_ : List Int, y_ = (y259 ++ t264) := ⟨_, rfl⟩
                replace H : (some (y267, true)) = some (r1, r2) := by first | (rw [hy267]; with_reducible exact H) | (have H2_ := (Option.bind_some _ _).symm.trans H; rw [hy267]; with_reducible exact H2_) | (have H2_ := (Option.bind_some _ _).symm.trans H; with_reducible exact H2_) | with_reducible exact H | (rw [hy267]; exact H) | exact H
                have Ny267 := Aside0.mk hy267
                clear hy267
                simp only [Option.some.injEq, Prod.mk.injEq] at H
                obtain ⟨rfl, rfl⟩ := H
                go_enter Try.func30, Try.ntmps30
                try go_wp2_with (first | ((with_reducible refine gate_callee (f := 10) rfl ?_); refine goesL_ (some 13) rfl rfl Try.func10 (by kernel_rfl) rfl #[.int .i64 a0, .slice A1 l1.length c1] rfl qq5 ?_; (with_reducible refine (impl_TreeFirst.calls k a0 _ _ l1 t245 true _ ?side1 ?side2 A4.out).mono ?_); (case side1 => exact qq15 HR1.out); (case side2 => exact HC1.out); rintro e w24 ⟨v247, rfl, ho0, hb⟩; refine ⟨_, rfl, ?_⟩; have n0_ := Aside0.mk (Kd.R_lower ho0 (below_size qq1)); have n1_ := Aside0.mk (below_step qq1 hb); clear HB; have HO248 := n0_; have HB := n1_; clear n0_ n1_; (try clear hb); (try clear hb2); (try clear hk); (try clear hi); (try clear ho0); obtain ⟨Ao25, co25, eo25⟩ := Kd.R_slice HO248.out; subst eo25) | (go_at_call 48; (with_reducible refine (slices_Contains_int_int.calls k _ _ t245 a2 false _ ?side1 ?side2 A14.out).mono ?_); (case side1 => exact qq12 HO248.out); (case side2 => exact qq50 HO248.out); rintro e w' ⟨rfl, ⟨nd, rfl⟩⟩))
                (try (rw [drewN_self w24]; generalize hq_ : World.drewN w24 _ = w24; have n0_ : Aside0 (Kd.R (Kd.int .i64) 3 w24 w.heap.size (fun _ => True) (.slice Ao25 t245.length co25) t245) := ⟨by rw [← hq_]; exact (qq2 HO248.out)⟩; have n1_ : Aside0 (Below w.heap.size w w24) := ⟨by rw [← hq_]; exact qq1⟩; clear HO248 HB hq_; have HO248 := n0_; have HB := n1_; clear n0_ n1_))
                have n0_ := Aside0.mk (Kd.R_drew HO248.out)
                have n1_ := Aside0.mk (below_drew1 HB.out)
                clear HO248
                clear HB
                have HO248 := n0_
                have HB := n1_
                clear n0_ n1_
                have p262 : 0 ≤ (a2 : Int) := of_decide_eq_true qq3
                have q262 : a2 < (l1.length : Int) := of_decide_eq_true qq3
                obtain ⟨ad262, e262, hx262_0, hx262_1, hx262_2, hx262_3⟩ := at_T32 HR1.out a2 p262 q262
                have hw262_3 := hx262_3
                have hw262_2 := hx262_2
                have hw262_1 := hx262_1
                have hw262_0 := hx262_0
                cases e262
                replace hx262_0 := (HB.out.cell (World.block_lt_of_cell? w _ hx262_0)).trans hx262_0
                replace hx262_1 := (HB.out.cell (World.block_lt_of_cell? w _ hx262_1)).trans hx262_1
                replace hx262_2 := (HB.out.cell (World.block_lt_of_cell? w _ hx262_2)).trans hx262_2
                replace hx262_3 := (HB.out.cell (World.block_lt_of_cell? w _ hx262_3)).trans hx262_3
                replace p262 := eq_true p262
                replace q262 := eq_true q262
                have p263 : 0 ≤ (a2 : Int) := of_decide_eq_true qq3
                have q263 : a2 < (l1.length : Int) := of_decide_eq_true qq3
                obtain ⟨ad263, e263, hx263_0, hx263_1, hx263_2, hx263_3⟩ := at_T32 HR1.out a2 p263 q263
                have hw263_3 := hx263_3
                have hw263_2 := hx263_2
                have hw263_1 := hx263_1
                have hw263_0 := hx263_0
                obtain rfl : ad262 = ad263 := (by injection e263)
                replace hx263_0 := (HB.out.cell (World.block_lt_of_cell? w _ hx263_0)).trans hx263_0
                replace hx263_1 := (HB.out.cell (World.block_lt_of_cell? w _ hx263_1)).trans hx263_1
                replace hx263_2 := (HB.out.cell (World.block_lt_of_cell? w _ hx263_2)).trans hx263_2
                replace hx263_3 := (HB.out.cell (World.block_lt_of_cell? w _ hx263_3)).trans hx263_3
                replace p263 := eq_true p263
                replace q263 := eq_true q263
                refine start_ (n := 19) (S := fun w' => w'.cell? (ad262.add ((a2).toNat * 4)) = some (.int .i64 ((rd_T32 l1 a2).f0)) ∧ w'.cell? ⟨(ad262.add ((a2).toNat * 4)).block, (ad262.add ((a2).toNat * 4)).off + 1, none⟩ = some (.int .i64 ((rd_T32 l1 a2).f1)) ∧ w'.cell? ⟨(ad262.add ((a2).toNat * 4)).block, (ad262.add ((a2).toNat * 4)).off + 2, none⟩ = some (.int .i64 ((rd_T32 l1 a2).f2)) ∧ w'.cell? ⟨(ad262.add ((a2).toNat * 4)).block, (ad262.add ((a2).toNat * 4)).off + 3, none⟩ = some (.int .i64 ((rd_T32 l1 a2).f3)) ∧ w'.cell? (ad262.add ((a2).toNat * 4)) = some (.int .i64 ((rd_T32 l1 a2).f0)) ∧ w'.cell? ⟨(ad262.add ((a2).toNat * 4)).block, (ad262.add ((a2).toNat * 4)).off + 1, none⟩ = some (.int .i64 ((rd_T32 l1 a2).f1)) ∧ w'.cell? ⟨(ad262.add ((a2).toNat * 4)).block, (ad262.add ((a2).toNat * 4)).off + 2, none⟩ = some (.int .i64 ((rd_T32 l1 a2).f2)) ∧ w'.cell? ⟨(ad262.add ((a2).toNat * 4)).block, (ad262.add ((a2).toNat * 4)).off + 3, none⟩ = some (.int .i64 ((rd_T32 l1 a2).f3))) (ds := []) #[false, false, false, false, false, false, false, false, false, false, false, false, false, false, false, false, false, false, false] (by kernel_rfl) rfl rfl ⟨((HB.out.cell (World.block_lt_of_cell? w _ hw262_0)).trans hw262_0), ((HB.out.cell (World.block_lt_of_cell? w _ hw262_1)).trans hw262_1), ((HB.out.cell (World.block_lt_of_cell? w _ hw262_2)).trans hw262_2), ((HB.out.cell (World.block_lt_of_cell? w _ hw262_3)).trans hw262_3), ((HB.out.cell (World.block_lt_of_cell? w _ hw263_0)).trans hw263_0), ((HB.out.cell (World.block_lt_of_cell? w _ hw263_1)).trans hw263_1), ((HB.out.cell (World.block_lt_of_cell? w _ hw263_2)).trans hw263_2), ((HB.out.cell (World.block_lt_of_cell? w _ hw263_3)).trans hw263_3)⟩ (fun hHeld => ?_); refine with_tabW impl_LoopOf.tab4 impl_LoopOf.bits4 (fun HT_ HW_ => ?_)
                generalize w24.drew = w26 at HO248 HB hx262_0 hx262_1 hx262_2 hx262_3 hx263_0 hx263_1 hx263_2 hx263_3 hHeld ⊢
                refine pure_ (i := 0) (N := some 34) #[true, false, false, false, false, false, false, false, false, false, false, false, false, false, false, false, false, false, false] rfl rfl (any_of HT_.out (by kernel_rfl)) (fun _ _ _ h => h) (Or.inl ⟨by rfl, pA_⟩) pB_ ?_
                refine pure_ (i := 1) (N := some 35) #[true, true, false, false, false, false, false, false, false, false, false, false, false, false, false, false, false, false, false] rfl rfl (any_of HT_.out (by kernel_rfl)) (fun _ _ _ h => h) (Or.inl ⟨by rfl, pA_⟩) pB_ ?_
                refine pure_ (i := 3) (N := some 37) #[true, true, false, true, false, false, false, false, false, false, false, false, false, false, false, false, false, false, false] rfl rfl (any_of HT_.out (by kernel_rfl)) (fun _ _ _ h => h) (Or.inl ⟨by rfl, pA_⟩) pB_ ?_
                refine pure_ (i := 4) (N := some 38) #[true, true, false, true, true, false, false, false, false, false, false, false, false, false, false, false, false, false, false] rfl rfl (any_of HT_.out (by kernel_rfl)) (fun _ _ _ h => h) (Or.inl ⟨by rfl, pA_⟩) pB_ ?_
                refine pure_ (i := 5) (N := some 39) #[true, true, false, true, true, true, false, false, false, false, false, false, false, false, false, false, false, false, false] rfl rfl (any_of HT_.out (by kernel_rfl)) (fun _ _ _ h => h) (Or.inl ⟨by rfl, pA_⟩) pB_ ?_
                refine pure_ (i := 6) (N := some 40) #[true, true, false, true, true, true, true, false, false, false, false, false, false, false, false, false, false, false, false] rfl rfl (any_of HT_.out (by kernel_rfl)) (fun _ _ _ h => h) (Or.inl ⟨by rfl, pA_⟩) pB_ ?_
                refine pure_ (i := 7) (N := some 41) #[true, true, false, true, true, true, true, true, false, false, false, false, false, false, false, false, false, false, false] rfl rfl (any_of HT_.out (by kernel_rfl)) (fun _ _ _ h => h) (Or.inl ⟨by rfl, pA_⟩) pB_ ?_
                refine pure_ (i := 8) (N := some 42) #[true, true, false, true, true, true, true, true, true, false, false, false, false, false, false, false, false, false, false] rfl rfl (any_of HT_.out (by kernel_rfl)) (fun _ _ _ h => h) (Or.inl ⟨by rfl, pA_⟩) pB_ ?_
                refine pure_ (i := 10) (N := some 44) #[true, true, false, true, true, true, true, true, true, false, true, false, false, false, false, false, false, false, false] rfl rfl (any_of HT_.out (by kernel_rfl)) (fun _ _ _ h => h) (Or.inl ⟨by rfl, pA_⟩) pB_ ?_
                refine pure_ (i := 11) (N := some 45) #[true, true, false, true, true, true, true, true, true, false, true, true, false, false, false, false, false, false, false] rfl rfl (any_of HT_.out (by kernel_rfl)) (fun _ _ _ h => h) (Or.inl ⟨by rfl, pA_⟩) pB_ ?_
                refine pure_ (i := 12) (N := some 46) #[true, true, false, true, true, true, true, true, true, false, true, true, true, false, false, false, false, false, false] rfl rfl (any_of HT_.out (by kernel_rfl)) (fun _ _ _ h => h) (Or.inl ⟨by rfl, pA_⟩) pB_ ?_
                refine pure_ (i := 13) (N := some 47) #[true, true, false, true, true, true, true, true, true, false, true, true, true, true, false, false, false, false, false] rfl rfl (any_of HT_.out (by kernel_rfl)) (fun _ _ _ h => h) (Or.inl ⟨by rfl, pA_⟩) pB_ ?_
                refine take_ (i := 9) (N := some 43) (v := ?_) (a' := ?_) #[true, true, false, true, true, true, true, true, true, true, true, true, true, true, false, false, false, false, false] rfl rfl (take_ofW HT_.out HW_.out (by kernel_rfl)) (fun _ _ _ h => h) (Or.inl ⟨by rfl, ?_⟩) hHeld ?_ ?_
                rotate_left
                · rintro w' ⟨s0, s1, s2, s3, s4, s5, s6, s7⟩
                  go_simp
                  with_reducible rfl
                rotate_left
                · simp only [Act.put, List.setIfInBounds_toArray, List.set_cons_zero, List.set_cons_succ, i64_w, i32_w]
                  rfl
                refine take_ (i := 14) (N := some 48) (v := ?_) (a' := ?_) #[true, true, false, true, true, true, true, true, true, true, true, true, true, true, true, false, false, false, false] rfl rfl (take_ofW HT_.out HW_.out (by kernel_rfl)) (fun _ _ _ h => h) (Or.inl ⟨by rfl, ?_⟩) hHeld ?_ ?_
                rotate_left
                · rintro w' ⟨s0, s1, s2, s3, s4, s5, s6, s7⟩
                  go_simp
                  with_reducible rfl
                rotate_left
                · simp only [Act.put, List.setIfInBounds_toArray, List.set_cons_zero, List.set_cons_succ, i64_w, i32_w]
                  rfl
                refine join_ (σ := Value × Value) 3 #[true, true, true, true, true, true, true, true, true, true, true, true, true, true, true, true, false, false, false] (fun s_ => [(36, s_.1), (49, s_.2)]) (fun s_ w' => (w'.cell? (ad262.add ((a2).toNat * 4)) = some (.int .i64 ((rd_T32 l1 a2).f0)) ∧ w'.cell? ⟨(ad262.add ((a2).toNat * 4)).block, (ad262.add ((a2).toNat * 4)).off + 1, none⟩ = some (.int .i64 ((rd_T32 l1 a2).f1)) ∧ w'.cell? ⟨(ad262.add ((a2).toNat * 4)).block, (ad262.add ((a2).toNat * 4)).off + 2, none⟩ = some (.int .i64 ((rd_T32 l1 a2).f2)) ∧ w'.cell? ⟨(ad262.add ((a2).toNat * 4)).block, (ad262.add ((a2).toNat * 4)).off + 3, none⟩ = some (.int .i64 ((rd_T32 l1 a2).f3)) ∧ w'.cell? (ad262.add ((a2).toNat * 4)) = some (.int .i64 ((rd_T32 l1 a2).f0)) ∧ w'.cell? ⟨(ad262.add ((a2).toNat * 4)).block, (ad262.add ((a2).toNat * 4)).off + 1, none⟩ = some (.int .i64 ((rd_T32 l1 a2).f1)) ∧ w'.cell? ⟨(ad262.add ((a2).toNat * 4)).block, (ad262.add ((a2).toNat * 4)).off + 2, none⟩ = some (.int .i64 ((rd_T32 l1 a2).f2)) ∧ w'.cell? ⟨(ad262.add ((a2).toNat * 4)).block, (ad262.add ((a2).toNat * 4)).off + 3, none⟩ = some (.int .i64 ((rd_T32 l1 a2).f3))) ∧ (Kd.R (Kd.int .i64) 3 w' w.heap.size (fun k_ => some k_ ≠ (s_.1 : Value).ownBlock ∧ some k_ ≠ (s_.2 : Value).ownBlock) (.slice Ao25 t245.length co25) t245) ∧ (Kd.R (Kd.int .i64) 3 w' w.heap.size (fun k_ => some k_ ≠ (.slice Ao25 t245.length co25 : Value).ownBlock ∧ some k_ ≠ (s_.2 : Value).ownBlock) s_.1 y259) ∧ (Kd.R (Kd.int .i64) 3 w' w.heap.size (fun k_ => some k_ ≠ (.slice Ao25 t245.length co25 : Value).ownBlock ∧ some k_ ≠ (s_.1 : Value).ownBlock) s_.2 t264) ∧ (Below w.heap.size w w')) ?_ ?_
                rotate_left
                · intro hCont
                  refine two_ (i := 2) (j := 15) (Ni := some 36) (Nj := some 49) #[true, true, true, true, true, true, true, true, true, true, true, true, true, true, true, false, false, false, false] #[true, true, false, true, true, true, true, true, true, true, true, true, true, true, true, true, false, false, false] rfl rfl rfl rfl (two_of HT_.out (by kernel_rfl)) (by decide) (by decide) (fun K hK => ?_) (fun K hK => ?_)
                  · skip
                    refine Kd.R_lit_step (Kd.int .i64) _ 3 ?hg (N := 36) ?hd (xs := ([wrap64 (a2 + 1)] : List Int)) (inner := [.int .i64 (wrap64 (a2 + 1))]) (ok := fun _ => True) (okp := fun _ => True) ?hr ?hp (fun _ hk => hk) trivial (Below.refl _ _) (Nat.le_refl _) (by simp) ?_; (case hd => rfl); (case hg => rfl); (case hr => exact qq16); (case hp => exact qq61)
                    intro v260 w27 ho28 hb hg_ hnew_
                    clear hg_ hnew_
                    (first | rw [← Ny259.out] at ho28 | (simp only [Int.reduceToNat] at ho28; rw [← Ny259.out] at ho28))
                    have n0_ := Aside0.mk (Kd.R_elder' (qq2 HO248.out) (Kd.R_base ho28) hb)
                    have n1_ := Aside0.mk (Kd.R_lower (Kd.R_new' ho28 (Kd.R_lt (qq2 HO248.out))) (below_size qq1))
                    have n2_ := Aside0.mk (below_step qq1 hb)
                    clear HO248
                    clear HB
                    have HO248 := n0_
                    have HO261 := n1_
                    have HB := n2_
                    clear n0_ n1_ n2_
                    clear hb ho28
                    refine hK.out _ _ ⟨((HB.out.cell (World.block_lt_of_cell? w _ hw262_0)).trans hw262_0), ((HB.out.cell (World.block_lt_of_cell? w _ hw262_1)).trans hw262_1), ((HB.out.cell (World.block_lt_of_cell? w _ hw262_2)).trans hw262_2), ((HB.out.cell (World.block_lt_of_cell? w _ hw262_3)).trans hw262_3), ((HB.out.cell (World.block_lt_of_cell? w _ hw263_0)).trans hw263_0), ((HB.out.cell (World.block_lt_of_cell? w _ hw263_1)).trans hw263_1), ((HB.out.cell (World.block_lt_of_cell? w _ hw263_2)).trans hw263_2), ((HB.out.cell (World.block_lt_of_cell? w _ hw263_3)).trans hw263_3)⟩ (fun hHeld => ?_)
                    clear hK K
                    refine norm_ (a' := ?_) ?_ ?_
                    rotate_left
                    · show Act.put _ (some 36) _ = _
                      simp only [Act.put, List.setIfInBounds_toArray, List.set_cons_zero, List.set_cons_succ, i64_w, i32_w]
                      rfl
                    refine one_ (i := 15) (N := some 49) #[true, true, true, true, true, true, true, true, true, true, true, true, true, true, true, true, false, false, false] rfl rfl (one_of HT_.out (by kernel_rfl)) (by decide) (fun K hK => ?_)
                    refine goes_ Try.func49 (by kernel_rfl) rfl #[.slice (some ad262) l1.length c1, .slice Ao25 t245.length co25, .int .i64 ((rd_T32 l1 a2).f1), .int .i64 ((rd_T32 l1 a2).f0)] (by rfl) rfl rfl qq5 ?_
                    with_reducible refine (impl_treeWay.calls _ _ l1 _ _ t245 ((rd_T32 l1 a2).f1) ((rd_T32 l1 a2).f0) t264 _ ?side1 ?side2 ?side3 ?side4 A22.out).mono ?_
                    (case side1 => exact qq35)
                    (case side2 => exact HC1.out)
                    (case side3 => exact qq12 HO248.out)
                    (case side4 => exact qq50 HO248.out)
                    rintro e w29 ⟨v265, rfl, ho0, hb⟩
                    refine ⟨_, rfl, ?_⟩
                    have n0_ := Aside0.mk (Kd.R_elder' (qq2 HO248.out) (Kd.R_base ho0) hb)
                    have n1_ := Aside0.mk (Kd.R_elder' (qq2 HO261.out) (Kd.R_base ho0) hb)
                    have n2_ := Aside0.mk (Kd.R_lower (Kd.R_new' (Kd.R_new' ho0 (Kd.R_lt (qq2 HO248.out))) (Kd.R_lt (qq2 HO261.out))) (below_size qq1))
                    have n3_ := Aside0.mk (below_step qq1 hb)
                    clear HO248
                    clear HO261
                    clear HB
                    have HO248 := n0_
                    have HO261 := n1_
                    have HO266 := n2_
                    have HB := n3_
                    clear n0_ n1_ n2_ n3_
                    (try clear hb)
                    (try clear hb2)
                    (try clear hk)
                    (try clear hi)
                    (try clear ho0)
                    refine hK.out _ _ ⟨((HB.out.cell (World.block_lt_of_cell? w _ hw262_0)).trans hw262_0), ((HB.out.cell (World.block_lt_of_cell? w _ hw262_1)).trans hw262_1), ((HB.out.cell (World.block_lt_of_cell? w _ hw262_2)).trans hw262_2), ((HB.out.cell (World.block_lt_of_cell? w _ hw262_3)).trans hw262_3), ((HB.out.cell (World.block_lt_of_cell? w _ hw263_0)).trans hw263_0), ((HB.out.cell (World.block_lt_of_cell? w _ hw263_1)).trans hw263_1), ((HB.out.cell (World.block_lt_of_cell? w _ hw263_2)).trans hw263_2), ((HB.out.cell (World.block_lt_of_cell? w _ hw263_3)).trans hw263_3)⟩ (fun hHeld => ?_)
                    clear hK K
                    refine norm_ (a' := ?_) ?_ ?_
                    rotate_left
                    · show Act.put _ (some 49) _ = _
                      simp only [Act.put, List.setIfInBounds_toArray, List.set_cons_zero, List.set_cons_succ, i64_w, i32_w]
                      rfl
                    exact norm_ qq74 (hCont (v260, v265) _ ⟨hHeld, (qq32 HO248.out), (qq32 HO261.out), (qq32 HO266.out), qq1⟩)
                  · skip
                    refine goes_ Try.func49 (by kernel_rfl) rfl #[.slice (some ad262) l1.length c1, .slice Ao25 t245.length co25, .int .i64 ((rd_T32 l1 a2).f1), .int .i64 ((rd_T32 l1 a2).f0)] (by rfl) rfl rfl qq5 ?_
                    with_reducible refine (impl_treeWay.calls _ _ l1 _ _ t245 ((rd_T32 l1 a2).f1) ((rd_T32 l1 a2).f0) t264 _ ?side1 ?side2 ?side3 ?side4 A22.out).mono ?_
                    (case side1 => exact qq35)
                    (case side2 => exact HC1.out)
                    (case side3 => exact qq12 HO248.out)
                    (case side4 => exact qq50 HO248.out)
                    rintro e w27 ⟨v265, rfl, ho0, hb⟩
                    refine ⟨_, rfl, ?_⟩
                    have n0_ := Aside0.mk (Kd.R_elder' (qq2 HO248.out) (Kd.R_base ho0) hb)
                    have n1_ := Aside0.mk (Kd.R_lower (Kd.R_new' ho0 (Kd.R_lt (qq2 HO248.out))) (below_size qq1))
                    have n2_ := Aside0.mk (below_step qq1 hb)
                    clear HO248
                    clear HB
                    have HO248 := n0_
                    have HO266 := n1_
                    have HB := n2_
                    clear n0_ n1_ n2_
                    (try clear hb)
                    (try clear hb2)
                    (try clear hk)
                    (try clear hi)
                    (try clear ho0)
                    refine hK.out _ _ ⟨((HB.out.cell (World.block_lt_of_cell? w _ hw262_0)).trans hw262_0), ((HB.out.cell (World.block_lt_of_cell? w _ hw262_1)).trans hw262_1), ((HB.out.cell (World.block_lt_of_cell? w _ hw262_2)).trans hw262_2), ((HB.out.cell (World.block_lt_of_cell? w _ hw262_3)).trans hw262_3), ((HB.out.cell (World.block_lt_of_cell? w _ hw263_0)).trans hw263_0), ((HB.out.cell (World.block_lt_of_cell? w _ hw263_1)).trans hw263_1), ((HB.out.cell (World.block_lt_of_cell? w _ hw263_2)).trans hw263_2), ((HB.out.cell (World.block_lt_of_cell? w _ hw263_3)).trans hw263_3)⟩ (fun hHeld => ?_)
                    clear hK K
                    refine norm_ (a' := ?_) ?_ ?_
                    rotate_left
                    · show Act.put _ (some 49) _ = _
                      simp only [Act.put, List.setIfInBounds_toArray, List.set_cons_zero, List.set_cons_succ, i64_w, i32_w]
                      rfl
                    refine one_ (i := 2) (N := some 36) #[true, true, true, true, true, true, true, true, true, true, true, true, true, true, true, true, false, false, false] rfl rfl (one_of HT_.out (by kernel_rfl)) (by decide) (fun K hK => ?_)
                    refine Kd.R_lit_step (Kd.int .i64) _ 3 ?hg (N := 36) ?hd (xs := ([wrap64 (a2 + 1)] : List Int)) (inner := [.int .i64 (wrap64 (a2 + 1))]) (ok := fun _ => True) (okp := fun _ => True) ?hr ?hp (fun _ hk => hk) trivial (Below.refl _ _) (Nat.le_refl _) (by simp) ?_; (case hd => rfl); (case hg => rfl); (case hr => exact qq16); (case hp => exact qq61)
                    intro v260 w28 ho29 hb hg_ hnew_
                    clear hg_ hnew_
                    (first | rw [← Ny259.out] at ho29 | (simp only [Int.reduceToNat] at ho29; rw [← Ny259.out] at ho29))
                    have n0_ := Aside0.mk (Kd.R_elder' (qq2 HO248.out) (Kd.R_base ho29) hb)
                    have n1_ := Aside0.mk (Kd.R_elder' (qq2 HO266.out) (Kd.R_base ho29) hb)
                    have n2_ := Aside0.mk (Kd.R_lower (Kd.R_new' (Kd.R_new' ho29 (Kd.R_lt (qq2 HO248.out))) (Kd.R_lt (qq2 HO266.out))) (below_size qq1))
                    have n3_ := Aside0.mk (below_step qq1 hb)
                    clear HO248
                    clear HO266
                    clear HB
                    have HO248 := n0_
                    have HO266 := n1_
                    have HO261 := n2_
                    have HB := n3_
                    clear n0_ n1_ n2_ n3_
                    clear hb ho29
                    refine hK.out _ _ ⟨((HB.out.cell (World.block_lt_of_cell? w _ hw262_0)).trans hw262_0), ((HB.out.cell (World.block_lt_of_cell? w _ hw262_1)).trans hw262_1), ((HB.out.cell (World.block_lt_of_cell? w _ hw262_2)).trans hw262_2), ((HB.out.cell (World.block_lt_of_cell? w _ hw262_3)).trans hw262_3), ((HB.out.cell (World.block_lt_of_cell? w _ hw263_0)).trans hw263_0), ((HB.out.cell (World.block_lt_of_cell? w _ hw263_1)).trans hw263_1), ((HB.out.cell (World.block_lt_of_cell? w _ hw263_2)).trans hw263_2), ((HB.out.cell (World.block_lt_of_cell? w _ hw263_3)).trans hw263_3)⟩ (fun hHeld => ?_)
                    clear hK K
                    refine norm_ (a' := ?_) ?_ ?_
                    rotate_left
                    · show Act.put _ (some 36) _ = _
                      simp only [Act.put, List.setIfInBounds_toArray, List.set_cons_zero, List.set_cons_succ, i64_w, i32_w]
                      rfl
                    exact norm_ qq74 (hCont (v260, v265) _ ⟨hHeld, (by (with_reducible repeat (first | apply Kd.R_alloc | apply Kd.R_drewN | apply Kd.R_drew)); exact Kd.R_mono HO248.out (fun _ hk => ⟨hk.2, hk.1.2⟩)), (qq32 HO261.out), (qq32 HO266.out), qq1⟩)
                rintro ⟨v260, v265⟩ w30 ⟨hS_, h0_, h1_, h2_, h3_⟩
                have n0_ : Aside0 (Kd.R (Kd.int .i64) 3 w30 w.heap.size (fun k_ => some k_ ≠ (v260 : Value).ownBlock ∧ some k_ ≠ (v265 : Value).ownBlock) (.slice Ao25 t245.length co25) t245) := ⟨h0_⟩
                have n1_ : Aside0 (Kd.R (Kd.int .i64) 3 w30 w.heap.size (fun k_ => some k_ ≠ (.slice Ao25 t245.length co25 : Value).ownBlock ∧ some k_ ≠ (v265 : Value).ownBlock) v260 y259) := ⟨h1_⟩
                have n2_ : Aside0 (Kd.R (Kd.int .i64) 3 w30 w.heap.size (fun k_ => some k_ ≠ (.slice Ao25 t245.length co25 : Value).ownBlock ∧ some k_ ≠ (v260 : Value).ownBlock) v265 t264) := ⟨h2_⟩
                have n3_ : Aside0 (Below w.heap.size w w30) := ⟨h3_⟩
                clear HO248
                clear HB
                clear h0_ h1_ h2_ h3_
                have HO248 := n0_
                have HO261 := n1_
                have HO266 := n2_
                have HB := n3_
                clear n0_ n1_ n2_ n3_
                have hHeld : w30.cell? (ad262.add ((a2).toNat * 4)) = some (.int .i64 ((rd_T32 l1 a2).f0)) ∧ w30.cell? ⟨(ad262.add ((a2).toNat * 4)).block, (ad262.add ((a2).toNat * 4)).off + 1, none⟩ = some (.int .i64 ((rd_T32 l1 a2).f1)) ∧ w30.cell? ⟨(ad262.add ((a2).toNat * 4)).block, (ad262.add ((a2).toNat * 4)).off + 2, none⟩ = some (.int .i64 ((rd_T32 l1 a2).f2)) ∧ w30.cell? ⟨(ad262.add ((a2).toNat * 4)).block, (ad262.add ((a2).toNat * 4)).off + 3, none⟩ = some (.int .i64 ((rd_T32 l1 a2).f3)) ∧ w30.cell? (ad262.add ((a2).toNat * 4)) = some (.int .i64 ((rd_T32 l1 a2).f0)) ∧ w30.cell? ⟨(ad262.add ((a2).toNat * 4)).block, (ad262.add ((a2).toNat * 4)).off + 1, none⟩ = some (.int .i64 ((rd_T32 l1 a2).f1)) ∧ w30.cell? ⟨(ad262.add ((a2).toNat * 4)).block, (ad262.add ((a2).toNat * 4)).off + 2, none⟩ = some (.int .i64 ((rd_T32 l1 a2).f2)) ∧ w30.cell? ⟨(ad262.add ((a2).toNat * 4)).block, (ad262.add ((a2).toNat * 4)).off + 3, none⟩ = some (.int .i64 ((rd_T32 l1 a2).f3)) := hS_
                obtain ⟨Ao32, co32, eo32⟩ := Kd.R_slice HO266.out
                (first | subst eo32 | (injection eo32 with f1_ f2_ f3_; have f4_ := f1_.symm; have f5_ := f3_.symm; clear f1_ f2_ f3_; subst f4_; subst f5_))
                refine norm_ (a' := ?_) ?_ ?_
                rotate_left
                · simp only [putAll, Act.put, List.setIfInBounds_toArray, List.set_cons_zero, List.set_cons_succ]
                  rfl
                refine one_ (i := 16) (N := some 50) #[true, true, true, true, true, true, true, true, true, true, true, true, true, true, true, true, true, false, false] rfl rfl (one_of HT_.out (by kernel_rfl)) (by decide) (fun K hK => ?_)
                refine Kd.R_append_rows_step (Kd.int .i64) (w0 := w) w.heap.size (by rfl) (.tmp 36) (.tmp 49) 27 3 (.int .i64 0) 8 rfl Try.underlying27 info3 rfl (by decide) (by omega) v260 y259 t264 _ _ _ (fun k_ => some k_ ≠ (.slice Ao25 t245.length co25 : Value).ownBlock ∧ some k_ ≠ (.slice Ao32 t264.length co32 : Value).ownBlock) (fun _ => False) rfl rfl ?aO ?aR (fun _ _ h => h) (fun _ h => h.elim) ?aF ?aB ?aS ?aL ?_
                (case aR => exact qq12 HO266.out)
                (case aB => exact qq1)
                (case aF => exact (fun k_ hk => ⟨Kd.fresh' (Kd.R_lt (qq2 HO248.out)) k_ hk, Kd.fresh' (Kd.R_lt (qq2 HO266.out)) k_ hk⟩))
                (case aO => exact (qq2 HO261.out))
                (case aS => exact (below_size qq1))
                (case aL => have := LMc23.out; omega)
                intro v268 w31 ho hb hg hat
                rw [← Ny267.out] at ho
                have n0_ := Aside0.mk (Kd.R_after (ok := (fun k_ => some k_ ≠ (.slice Ao32 t264.length co32 : Value).ownBlock)) (by (with_reducible repeat (first | apply Kd.R_alloc | apply Kd.R_drewN | apply Kd.R_drew)); exact Kd.R_mono HO248.out (fun _ hk => ⟨hk.2, hk.1⟩)) hg hat)
                have n1_ := Aside0.mk (Kd.R_after (ok := (fun k_ => some k_ ≠ (.slice Ao25 t245.length co25 : Value).ownBlock)) (qq2 HO266.out) hg hat)
                have n2_ := Aside0.mk (hb)
                have n3_ := Aside0.mk (ho)
                clear HO248
                clear HO266
                clear HB
                clear HO261
                have HO248 := n0_
                have HO266 := n1_
                have HB := n2_
                have HO269 := n3_
                clear n0_ n1_ n2_ n3_
                clear ho hb hg hat
                refine hK.out _ _ ⟨((HB.out.cell (World.block_lt_of_cell? w _ hw262_0)).trans hw262_0), ((HB.out.cell (World.block_lt_of_cell? w _ hw262_1)).trans hw262_1), ((HB.out.cell (World.block_lt_of_cell? w _ hw262_2)).trans hw262_2), ((HB.out.cell (World.block_lt_of_cell? w _ hw262_3)).trans hw262_3), ((HB.out.cell (World.block_lt_of_cell? w _ hw263_0)).trans hw263_0), ((HB.out.cell (World.block_lt_of_cell? w _ hw263_1)).trans hw263_1), ((HB.out.cell (World.block_lt_of_cell? w _ hw263_2)).trans hw263_2), ((HB.out.cell (World.block_lt_of_cell? w _ hw263_3)).trans hw263_3)⟩ (fun hHeld => ?_)
                clear hK K
                refine norm_ (a' := ?_) ?_ ?_
                rotate_left
                · show Act.put _ (some 50) _ = _
                  simp only [Act.put, List.setIfInBounds_toArray, List.set_cons_zero, List.set_cons_succ, i64_w, i32_w]
                  rfl
                refine pure_ (i := 17) (N := some 6) #[true, true, true, true, true, true, true, true, true, true, true, true, true, true, true, true, true, true, false] rfl rfl (any_of HT_.out (by kernel_rfl)) (fun _ _ _ h => h) (Or.inl ⟨by rfl, pA_⟩) pB_ ?_
                refine pure_ (i := 18) (N := some 7) #[true, true, true, true, true, true, true, true, true, true, true, true, true, true, true, true, true, true, true] rfl rfl (any_of HT_.out (by kernel_rfl)) (fun _ _ _ h => h) (Or.inl ⟨by rfl, pA_⟩) pB_ ?_
                refine done_ (done_of HT_.out (by kernel_rfl)) ?_
                try go_wp2
                go_ret2
                exact ⟨_, qq11, qq17 HO269.out, qq1⟩
              · rw [if_neg c23] at H
                exact absurd H (by simp)
            · rw [if_neg c21] at H
              exact absurd H (by simp)
          · rw [if_neg c20] at H
            exact absurd H (by simp)
  · replace c5 := Bool.eq_false_iff.mpr c5
    subst c5
    have H1 : (some ((([] : List Int)), false)) = some (r1, r2) := by rw [if_neg (show ¬ (false = true) by decide)] at H; exact H
    clear H
    have H := H1
    clear H1
    obtain ⟨y270, hy270⟩ : ∃ y_ : List Int, y_ = (([] : List Int)) := ⟨_, rfl⟩
    replace H : (some (y270, false)) = some (r1, r2) := by first | (rw [hy270]; with_reducible exact H) | (have H2_ := (Option.bind_some _ _).symm.trans H; rw [hy270]; with_reducible exact H2_) | (have H2_ := (Option.bind_some _ _).symm.trans H; with_reducible exact H2_) | with_reducible exact H | (rw [hy270]; exact H) | exact H
    have Ny270 := Aside0.mk hy270
    clear hy270
    simp only [Option.some.injEq, Prod.mk.injEq] at H
    obtain ⟨rfl, rfl⟩ := H
    go_enter Try.func30, Try.ntmps30
    go_wp2_with (first | ((with_reducible refine gate_callee (f := 10) rfl ?_); refine goesL_ (some 13) rfl rfl Try.func10 (by kernel_rfl) rfl #[.int .i64 a0, .slice A1 l1.length c1] rfl qq5 ?_; (with_reducible refine (impl_TreeFirst.calls k a0 _ _ l1 t245 false _ ?side1 ?side2 A4.out).mono ?_); (case side1 => exact qq15 HR1.out); (case side2 => exact HC1.out); rintro e w33 ⟨v247, rfl, ho0, hb⟩; refine ⟨_, rfl, ?_⟩; have n0_ := Aside0.mk (Kd.R_lower ho0 (below_size qq1)); have n1_ := Aside0.mk (below_step qq1 hb); clear HB; have HO248 := n0_; have HB := n1_; clear n0_ n1_; (try clear hb); (try clear hb2); (try clear hk); (try clear hi); (try clear ho0)) | ((with_reducible refine gate_dst (N := 33) rfl ?_); (try (refine gate_guard (by rfl) ?_; dsimp only)); refine Kd.R_lit (Kd.int .i64) _ 3 ?hg (N := 33) ?hd (xs := ([] : List Int)) (inner := []) (ok := fun _ => True) (okp := fun _ => True) ?hr ?hp (fun _ hk => hk) trivial (Below.refl _ _) (Nat.le_refl _) (by simp) ?_; (case hd => rfl); (case hg => rfl); (case hr => exact qq16); (case hp => exact (Reps.none _ _)); intro v271 w34 ho35 hb hg_ hnew_; clear hg_ hnew_; (first | rw [← Ny270.out] at ho35 | (simp only [Int.reduceToNat] at ho35; rw [← Ny270.out] at ho35)); have n0_ := Aside0.mk (Kd.R_elder' (qq2 HO248.out) (Kd.R_base ho35) hb); have n1_ := Aside0.mk (Kd.R_lower (Kd.R_new' ho35 (Kd.R_lt (qq2 HO248.out))) (below_size qq1)); have n2_ := Aside0.mk (below_step qq1 hb); clear HO248; clear HB; have HO248 := n0_; have HO272 := n1_; have HB := n2_; clear n0_ n1_ n2_; clear hb ho35))
    go_ret2
    exact ⟨_, qq11, qq17 HO272.out, qq1⟩

end Go.Proofs.Ytmcfhmflncghiaa.Q
namespace Go.Proofs.Ytmcfhmflncghiaa.Q
open Go.RowKit Go.Proofs.YtmcfhmflncghiaaW.PrintWords Go.Proofs.YtmcfhmflncghiaaW.PrintLast Go.Proofs.YtmcfhmflncghiaaW.PrintMore
attribute [local go_sem] max2_int min2_int max_two min_two max_three min_three max_four min_four
set_option linter.unusedVariables false
set_option linter.unusedSimpArgs false

/-! ### impl_numberRun: function 51 -/
def impl_numberRun.j0 : Nat → List (S32) → Int → Bool → Option (Int × Int × Int × Int × Bool)
  | 0, _, _, _ => none
  | k + 1, x0, x1, x21 => if x21 = true then (some (0, 0, 0, 0, false)) else (if x1 > 0 then (if 0 ≤ (wrap64 (x1 - 1)) then (if (wrap64 (x1 - 1)) < (x0.length : Int) then (some ((rd_T32 x0 (wrap64 (x1 - 1))).f0, (rd_T32 x0 (wrap64 (x1 - 1))).f1, (rd_T32 x0 (wrap64 (x1 - 1))).f2, (rd_T32 x0 (wrap64 (x1 - 1))).f3, true)) else (none)) else (none)) else (if 0 ≤ (wrap64 ((wrap64 (-x1)) - 1)) then (if (wrap64 ((wrap64 (-x1)) - 1)) < (x0.length : Int) then (some ((rd_T32 x0 (wrap64 ((wrap64 (-x1)) - 1))).f1, (rd_T32 x0 (wrap64 ((wrap64 (-x1)) - 1))).f0, wrap64 (-((rd_T32 x0 (wrap64 ((wrap64 (-x1)) - 1))).f2)), (rd_T32 x0 (wrap64 ((wrap64 (-x1)) - 1))).f3, true)) else (none)) else (none)))
def impl_numberRun.f (k : Nat) (l0 : List (S32)) (a1 : Int) : Option (Int × Int × Int × Int × Bool) := if a1 = 0 then (impl_numberRun.j0 k l0 a1 true) else (if a1 < (wrap64 (-(l0.length : Int))) then (impl_numberRun.j0 k l0 a1 true) else (impl_numberRun.j0 k l0 a1 (decide (a1 > (l0.length : Int)))))
set_option maxHeartbeats 8000000 in
set_option maxRecDepth 100000 in
theorem impl_numberRun.calls (k : Nat) (A0 : Option Addr) (c0 : Nat) (l0 : List (S32)) (a1 : Int) (r1 : Int) (r2 : Int) (r3 : Int) (r4 : Int) (r5 : Bool) (w : World) (hr0 : Kd.C k32 w A0 l0.length l0) (hc0 : l0.length ≤ c0) (h : impl_numberRun.f k l0 a1 = some (r1, r2, r3, r4, r5)) :
    Calls Try.prog 51 #[.slice A0 l0.length c0, .int .i64 a1] w fun e w' => e = .returned (.tuple #[.agg #[.int .i64 r1, .int .i64 r2, .int .i64 r3, .int .i64 r4], .bool r5]) ∧ Below w.heap.size w w' := by
  have hu32 := Try.underlying32
  have HR0 := Aside0.mk hr0
  have HC0 := Aside0.mk hc0
  clear hr0 hc0
  have HB := Aside0.mk (Below.refl w.heap.size w)
  have H : (if a1 = 0 then (impl_numberRun.j0 k l0 a1 true) else (if a1 < (wrap64 (-(l0.length : Int))) then (impl_numberRun.j0 k l0 a1 true) else (impl_numberRun.j0 k l0 a1 (decide (a1 > (l0.length : Int)))))) = some (r1, r2, r3, r4, r5) := h
  clear h
  have HC3 := Aside0.mk H
  clear H
  go_enter Try.func51, Try.ntmps51
  go_upto_region 1 with (first | ((with_reducible refine gate_dst (N := 4) rfl ?_); (try (refine gate_guard (by rfl) ?_; dsimp only)); refine box_event ?hg (N := 4) ?hd (cs := #[.int .i64 0, .int .i64 0, .int .i64 0, .int .i64 0]) (t := 32) ?hr ?_; (case hd => rfl); (case hg => rfl); (case hr => exact qq16); intro gb273 hg w4 hbox hb; have n0_ := Aside0.mk (below_step qq1 hb); have n1_ := Aside0.mk (hbox); have n2_ := Aside0.mk ((qq33 : w.heap.size ≤ gb273)); have n3_ := Aside0.mk ((qq33 : w.heap.size ≤ gb273)); clear HB; have HB := n0_; have BK273 := n1_; have GW273 := n2_; have GE273 := n3_; clear n0_ n1_ n2_ n3_; clear hb hbox hg))
  (try simp only [Act.put, List.setIfInBounds_toArray, List.set_cons_zero, List.set_cons_succ])
  go_cut [21] (fun v21 wc => ∃ (kq : Nat) (x21_2 : Bool), v21 = .bool x21_2 ∧ Aside0 (impl_numberRun.j0 kq l0 a1 x21_2 = some (r1, r2, r3, r4, r5)) ∧ Aside0 (kq ≤ k) ∧ Aside0 (wc.heap[gb273]? = some (.cells #[.int .i64 0, .int .i64 0, .int .i64 0, .int .i64 0] 32 (0, 0))) ∧ Aside0 (Below w.heap.size w wc))
  case first =>
    have H := HC3.out
    clear HC3
    by_cases c5 : a1 = 0
    · rw [if_pos c5] at H
      have c5b0 : (a1 == 0) = true := beq_iff_eq.mpr c5
      have c5b1 : (a1 != 0) = false := bne_eq_false_iff_eq.mpr c5
      clear c5
      (first | rw [c5b0] | (simp only [i64_w, i32_w]; rw [c5b0]) | skip)
      have H' := Aside0.mk H
      clear H
      go_wp2
      go_meet
      case rel => exact ⟨_, (true), qq13, H', ⟨qq37⟩, ⟨qq23 BK273.out⟩, ⟨qq4 HB.out GE273.out⟩⟩
    · rw [if_neg c5] at H
      have c5b0 : (a1 == 0) = false := beq_eq_false_iff_ne.mpr c5
      have c5b1 : (a1 != 0) = true := bne_iff_ne.mpr c5
      (first | rw [c5b0] | (simp only [i64_w, i32_w]; rw [c5b0]) | skip)
      by_cases c6 : a1 < (wrap64 (-(l0.length : Int)))
      · rw [if_pos c6] at H
        have c6b0 : decide (a1 < (wrap64 (-(l0.length : Int)))) = true := decide_eq_true c6
        clear c6
        have H' := Aside0.mk H
        clear H
        go_wp2
        go_meet
        case rel => exact ⟨_, (true), qq13, H', ⟨qq37⟩, ⟨qq23 BK273.out⟩, ⟨qq4 HB.out GE273.out⟩⟩
      · rw [if_neg c6] at H
        have c6b0 : decide (a1 < (wrap64 (-(l0.length : Int)))) = false := decide_eq_false c6
        clear c6
        have H' := Aside0.mk H
        clear H
        go_wp2
        go_meet
        case rel => exact ⟨_, (decide (a1 > (l0.length : Int))), qq13, H', ⟨qq37⟩, ⟨qq23 BK273.out⟩, ⟨qq4 HB.out GE273.out⟩⟩
  case rest =>
    clear HC3
    try clear p2
    try clear c5
    try clear c5b0
    try clear c5b1
    try clear c6
    try clear c6b0
    try clear p6
    obtain ⟨kq, x21_2, rfl, HA, HJ2, BK273, HB⟩ := hcut
    cases kq with
    | zero => exact absurd HA.out (by simp [impl_numberRun.j0])
    | succ kj2 =>
      have H := HA.out
      clear HA
      simp only [impl_numberRun.j0] at H
      by_cases c7 : x21_2 = true
      · subst c7
        have H1 : (some (0, 0, 0, 0, false)) = some (r1, r2, r3, r4, r5) := by rw [if_pos rfl] at H; exact H
        clear H
        have H := H1
        clear H1
        simp only [Option.some.injEq, Prod.mk.injEq] at H
        obtain ⟨rfl, rfl, rfl, rfl, rfl⟩ := H
        have hcz8_0 : wc.cell? ⟨gb273, 0, none⟩ = some (.int .i64 0) := (blk_cell BK273.out 0).trans rfl
        have hcz8_1 : wc.cell? ⟨gb273, 1, none⟩ = some (.int .i64 0) := (blk_cell BK273.out 1).trans rfl
        have hcz8_2 : wc.cell? ⟨gb273, 2, none⟩ = some (.int .i64 0) := (blk_cell BK273.out 2).trans rfl
        have hcz8_3 : wc.cell? ⟨gb273, 3, none⟩ = some (.int .i64 0) := (blk_cell BK273.out 3).trans rfl
        have hfz8_0 := blk_frozen BK273.out 0
        have hfz8_1 := blk_frozen BK273.out 1
        have hfz8_2 := blk_frozen BK273.out 2
        have hfz8_3 := blk_frozen BK273.out 3
        go_wp2
        refine bodyPost_ret (results_ct rfl _ _ gb273 32 #[.int .i64 0, .int .i64 0, .int .i64 0, .int .i64 0] (0, 0) _ rfl (by (with_reducible repeat (first | refine blk_drewN ?_ _ | refine blk_drew ?_ | refine blk_alloc ?_ _)); refine blk_put (cs := #[.int .i64 0, .int .i64 0, .int .i64 0, .int .i64 0]) ?_ 3 _ rfl; (with_reducible repeat (first | refine blk_drewN ?_ _ | refine blk_drew ?_ | refine blk_alloc ?_ _)); refine blk_put (cs := #[.int .i64 0, .int .i64 0, .int .i64 0, .int .i64 0]) ?_ 2 _ rfl; (with_reducible repeat (first | refine blk_drewN ?_ _ | refine blk_drew ?_ | refine blk_alloc ?_ _)); refine blk_put (cs := #[.int .i64 0, .int .i64 0, .int .i64 0, .int .i64 0]) ?_ 1 _ rfl; (with_reducible repeat (first | refine blk_drewN ?_ _ | refine blk_drew ?_ | refine blk_alloc ?_ _)); refine blk_put (cs := #[.int .i64 0, .int .i64 0, .int .i64 0, .int .i64 0]) ?_ 0 _ rfl; (with_reducible repeat (first | refine blk_drewN ?_ _ | refine blk_drew ?_ | refine blk_alloc ?_ _)); exact BK273.out) Try.underlying32 rfl (by kernel_rfl)) rfl ?_
        exact ⟨qq11, qq4 HB.out GE273.out⟩
      · replace c7 := Bool.eq_false_iff.mpr c7
        subst c7
        have H1 : (if a1 > 0 then (if 0 ≤ (wrap64 (a1 - 1)) then (if (wrap64 (a1 - 1)) < (l0.length : Int) then (some ((rd_T32 l0 (wrap64 (a1 - 1))).f0, (rd_T32 l0 (wrap64 (a1 - 1))).f1, (rd_T32 l0 (wrap64 (a1 - 1))).f2, (rd_T32 l0 (wrap64 (a1 - 1))).f3, true)) else (none)) else (none)) else (if 0 ≤ (wrap64 ((wrap64 (-a1)) - 1)) then (if (wrap64 ((wrap64 (-a1)) - 1)) < (l0.length : Int) then (some ((rd_T32 l0 (wrap64 ((wrap64 (-a1)) - 1))).f1, (rd_T32 l0 (wrap64 ((wrap64 (-a1)) - 1))).f0, wrap64 (-((rd_T32 l0 (wrap64 ((wrap64 (-a1)) - 1))).f2)), (rd_T32 l0 (wrap64 ((wrap64 (-a1)) - 1))).f3, true)) else (none)) else (none))) = some (r1, r2, r3, r4, r5) := by rw [if_neg (show ¬ (false = true) by decide)] at H; exact H
        clear H
        have H := H1
        clear H1
        by_cases c9 : a1 > 0
        · rw [if_pos c9] at H
          have c9b0 : decide (0 < a1) = true := decide_eq_true c9
          clear c9
          obtain ⟨ji10, hji10⟩ : ∃ j_ : Int, (wrap64 (a1 - 1)) = j_ := ⟨_, rfl⟩
          replace H : (if 0 ≤ (ji10) then (if (ji10) < (l0.length : Int) then (some ((rd_T32 l0 (ji10)).f0, (rd_T32 l0 (ji10)).f1, (rd_T32 l0 (ji10)).f2, (rd_T32 l0 (ji10)).f3, true)) else (none)) else (none)) = some (r1, r2, r3, r4, r5) := by first | (rw [hji10] at H; exact H) | (simp only [hji10] at H ⊢; exact H)
          have hji10w : (IntKind.i64.wrap (a1 - 1)) = ji10 := (i64_w _).trans hji10
          by_cases c11 : 0 ≤ (ji10)
          · rw [if_pos c11] at H
            have c11b0 : decide (0 ≤ (ji10)) = true := decide_eq_true c11
            clear c11
            by_cases c12 : (ji10) < (l0.length : Int)
            · rw [if_pos c12] at H
              have c12b0 : decide ((ji10) < (l0.length : Int)) = true := decide_eq_true c12
              clear c12
              simp only [Option.some.injEq, Prod.mk.injEq] at H
              obtain ⟨rfl, rfl, rfl, rfl, rfl⟩ := H
              have p274 : 0 ≤ ((ji10) : Int) := of_decide_eq_true qq3
              have q274 : (ji10) < (l0.length : Int) := of_decide_eq_true qq3
              obtain ⟨ad274, e274, hx274_0, hx274_1, hx274_2, hx274_3⟩ := at_T32 HR0.out (ji10) p274 q274
              cases e274
              replace hx274_0 := (HB.out.cell (World.block_lt_of_cell? w _ hx274_0)).trans hx274_0
              replace hx274_1 := (HB.out.cell (World.block_lt_of_cell? w _ hx274_1)).trans hx274_1
              replace hx274_2 := (HB.out.cell (World.block_lt_of_cell? w _ hx274_2)).trans hx274_2
              replace hx274_3 := (HB.out.cell (World.block_lt_of_cell? w _ hx274_3)).trans hx274_3
              replace p274 := eq_true p274
              replace q274 := eq_true q274
              have hcz13_0 : wc.cell? ⟨gb273, 0, none⟩ = some (.int .i64 0) := (blk_cell BK273.out 0).trans rfl
              have hcz13_1 : wc.cell? ⟨gb273, 1, none⟩ = some (.int .i64 0) := (blk_cell BK273.out 1).trans rfl
              have hcz13_2 : wc.cell? ⟨gb273, 2, none⟩ = some (.int .i64 0) := (blk_cell BK273.out 2).trans rfl
              have hcz13_3 : wc.cell? ⟨gb273, 3, none⟩ = some (.int .i64 0) := (blk_cell BK273.out 3).trans rfl
              have hfz13_0 := blk_frozen BK273.out 0
              have hfz13_1 := blk_frozen BK273.out 1
              have hfz13_2 := blk_frozen BK273.out 2
              have hfz13_3 := blk_frozen BK273.out 3
              go_wp2
              refine bodyPost_ret (results_ct rfl _ _ gb273 32 #[.int .i64 ((rd_T32 l0 (ji10)).f0), .int .i64 ((rd_T32 l0 (ji10)).f1), .int .i64 ((rd_T32 l0 (ji10)).f2), .int .i64 ((rd_T32 l0 (ji10)).f3)] (0, 0) _ rfl (by (with_reducible repeat (first | refine blk_drewN ?_ _ | refine blk_drew ?_ | refine blk_alloc ?_ _)); refine blk_put (cs := #[.int .i64 ((rd_T32 l0 (ji10)).f0), .int .i64 ((rd_T32 l0 (ji10)).f1), .int .i64 ((rd_T32 l0 (ji10)).f2), .int .i64 0]) ?_ 3 _ rfl; (with_reducible repeat (first | refine blk_drewN ?_ _ | refine blk_drew ?_ | refine blk_alloc ?_ _)); refine blk_put (cs := #[.int .i64 ((rd_T32 l0 (ji10)).f0), .int .i64 ((rd_T32 l0 (ji10)).f1), .int .i64 0, .int .i64 0]) ?_ 2 _ rfl; (with_reducible repeat (first | refine blk_drewN ?_ _ | refine blk_drew ?_ | refine blk_alloc ?_ _)); refine blk_put (cs := #[.int .i64 ((rd_T32 l0 (ji10)).f0), .int .i64 0, .int .i64 0, .int .i64 0]) ?_ 1 _ rfl; (with_reducible repeat (first | refine blk_drewN ?_ _ | refine blk_drew ?_ | refine blk_alloc ?_ _)); refine blk_put (cs := #[.int .i64 0, .int .i64 0, .int .i64 0, .int .i64 0]) ?_ 0 _ rfl; (with_reducible repeat (first | refine blk_drewN ?_ _ | refine blk_drew ?_ | refine blk_alloc ?_ _)); exact BK273.out) Try.underlying32 rfl (by kernel_rfl)) rfl ?_
              exact ⟨by first | rfl | (simp [errW_none, errW_some] <;> rfl) | (simp only [← hji10]; first | rfl | (simp [errW_none, errW_some] <;> rfl)) | (simp [*, errW_none, errW_some] <;> rfl), qq4 HB.out GE273.out⟩
            · rw [if_neg c12] at H
              exact absurd H (by simp)
          · rw [if_neg c11] at H
            exact absurd H (by simp)
        · rw [if_neg c9] at H
          have c9b0 : decide (0 < a1) = false := decide_eq_false c9
          clear c9
          obtain ⟨ji14, hji14⟩ : ∃ j_ : Int, (wrap64 ((wrap64 (-a1)) - 1)) = j_ := ⟨_, rfl⟩
          replace H : (if 0 ≤ (ji14) then (if (ji14) < (l0.length : Int) then (some ((rd_T32 l0 (ji14)).f1, (rd_T32 l0 (ji14)).f0, wrap64 (-((rd_T32 l0 (ji14)).f2)), (rd_T32 l0 (ji14)).f3, true)) else (none)) else (none)) = some (r1, r2, r3, r4, r5) := by first | (rw [hji14] at H; exact H) | (simp only [hji14] at H ⊢; exact H)
          have hji14w : (IntKind.i64.wrap ((wrap64 (-a1)) - 1)) = ji14 := (i64_w _).trans hji14
          by_cases c15 : 0 ≤ (ji14)
          · rw [if_pos c15] at H
            have c15b0 : decide (0 ≤ (ji14)) = true := decide_eq_true c15
            clear c15
            by_cases c16 : (ji14) < (l0.length : Int)
            · rw [if_pos c16] at H
              have c16b0 : decide ((ji14) < (l0.length : Int)) = true := decide_eq_true c16
              clear c16
              simp only [Option.some.injEq, Prod.mk.injEq] at H
              obtain ⟨rfl, rfl, rfl, rfl, rfl⟩ := H
              have p275 : 0 ≤ ((ji14) : Int) := of_decide_eq_true qq3
              have q275 : (ji14) < (l0.length : Int) := of_decide_eq_true qq3
              obtain ⟨ad275, e275, hx275_0, hx275_1, hx275_2, hx275_3⟩ := at_T32 HR0.out (ji14) p275 q275
              cases e275
              replace hx275_0 := (HB.out.cell (World.block_lt_of_cell? w _ hx275_0)).trans hx275_0
              replace hx275_1 := (HB.out.cell (World.block_lt_of_cell? w _ hx275_1)).trans hx275_1
              replace hx275_2 := (HB.out.cell (World.block_lt_of_cell? w _ hx275_2)).trans hx275_2
              replace hx275_3 := (HB.out.cell (World.block_lt_of_cell? w _ hx275_3)).trans hx275_3
              replace p275 := eq_true p275
              replace q275 := eq_true q275
              go_wp2_with (first | ((with_reducible refine gate_dst (N := 6) rfl ?_); (try (refine gate_guard (by rfl) ?_; dsimp only)); refine box_event ?hg (N := 6) ?hd (cs := #[.int .i64 0, .int .i64 0, .int .i64 0, .int .i64 0]) (t := 32) ?hr ?_; (case hd => rfl); (case hg => rfl); (case hr => exact qq16); intro gb276 hg w17 hbox hb; have n0_ := Aside0.mk (bbl_ BK273.out hb); have n1_ := Aside0.mk (below_step (qq4 HB.out GE273.out) hb); have n2_ := Aside0.mk (hbox); have n3_ := Aside0.mk ((by rw [hg]; exact (below_size (qq4 HB.out GE273.out)) : w.heap.size ≤ gb276)); have n4_ := Aside0.mk ((by rw [hg]; exact (below_size (qq4 HB.out GE273.out)) : w.heap.size ≤ gb276)); have n5_ := Aside0.mk ((by rw [hg]; exact Nat.ne_of_lt (blt_ BK273.out) : gb273 ≠ gb276)); have n6_ := Aside0.mk ((by rw [hg]; exact Nat.ne_of_gt (blt_ BK273.out) : gb276 ≠ gb273)); clear BK273; clear HB; have BK273 := n0_; have HB := n1_; have BK276 := n2_; have GW276 := n3_; have GE276 := n4_; have NB273_276 := n5_; have NB276_273 := n6_; clear n0_ n1_ n2_ n3_ n4_ n5_ n6_; clear hb hbox hg; have hnb18 := NB276_273.out; have hnc18 := NB273_276.out; have hcz19_0 : w17.cell? ⟨gb276, 0, none⟩ = some (.int .i64 0) := (blk_cell BK276.out 0).trans rfl; have hcz19_1 : w17.cell? ⟨gb276, 1, none⟩ = some (.int .i64 0) := (blk_cell BK276.out 1).trans rfl; have hcz19_2 : w17.cell? ⟨gb276, 2, none⟩ = some (.int .i64 0) := (blk_cell BK276.out 2).trans rfl; have hcz19_3 : w17.cell? ⟨gb276, 3, none⟩ = some (.int .i64 0) := (blk_cell BK276.out 3).trans rfl; have hfz19_0 := blk_frozen BK276.out 0; have hfz19_1 := blk_frozen BK276.out 1; have hfz19_2 := blk_frozen BK276.out 2; have hfz19_3 := blk_frozen BK276.out 3; have hcz20_0 : w17.cell? ⟨gb273, 0, none⟩ = some (.int .i64 0) := (blk_cell BK273.out 0).trans rfl; have hcz20_1 : w17.cell? ⟨gb273, 1, none⟩ = some (.int .i64 0) := (blk_cell BK273.out 1).trans rfl; have hcz20_2 : w17.cell? ⟨gb273, 2, none⟩ = some (.int .i64 0) := (blk_cell BK273.out 2).trans rfl; have hcz20_3 : w17.cell? ⟨gb273, 3, none⟩ = some (.int .i64 0) := (blk_cell BK273.out 3).trans rfl; have hfz20_0 := blk_frozen BK273.out 0; have hfz20_1 := blk_frozen BK273.out 1; have hfz20_2 := blk_frozen BK273.out 2; have hfz20_3 := blk_frozen BK273.out 3))
              refine bodyPost_ret (results_ct rfl _ _ gb273 32 #[.int .i64 ((rd_T32 l0 (ji14)).f1), .int .i64 ((rd_T32 l0 (ji14)).f0), .int .i64 (wrap64 (-((rd_T32 l0 (ji14)).f2))), .int .i64 ((rd_T32 l0 (ji14)).f3)] (0, 0) _ rfl (by (with_reducible repeat (first | refine blk_drewN ?_ _ | refine blk_drew ?_ | refine blk_alloc ?_ _)); refine blk_put (cs := #[.int .i64 ((rd_T32 l0 (ji14)).f1), .int .i64 ((rd_T32 l0 (ji14)).f0), .int .i64 (wrap64 (-((rd_T32 l0 (ji14)).f2))), .int .i64 0]) ?_ 3 _ rfl; (with_reducible repeat (first | refine blk_drewN ?_ _ | refine blk_drew ?_ | refine blk_alloc ?_ _)); refine blk_put (cs := #[.int .i64 ((rd_T32 l0 (ji14)).f1), .int .i64 ((rd_T32 l0 (ji14)).f0), .int .i64 0, .int .i64 0]) ?_ 2 _ rfl; (with_reducible repeat (first | refine blk_drewN ?_ _ | refine blk_drew ?_ | refine blk_alloc ?_ _)); refine blk_put (cs := #[.int .i64 ((rd_T32 l0 (ji14)).f1), .int .i64 0, .int .i64 0, .int .i64 0]) ?_ 1 _ rfl; (with_reducible repeat (first | refine blk_drewN ?_ _ | refine blk_drew ?_ | refine blk_alloc ?_ _)); refine blk_put (cs := #[.int .i64 0, .int .i64 0, .int .i64 0, .int .i64 0]) ?_ 0 _ rfl; (with_reducible repeat (first | refine blk_drewN ?_ _ | refine blk_drew ?_ | refine blk_alloc ?_ _)); refine blk_far ?_ NB273_276.out _; (with_reducible repeat (first | refine blk_drewN ?_ _ | refine blk_drew ?_ | refine blk_alloc ?_ _)); refine blk_far ?_ NB273_276.out _; (with_reducible repeat (first | refine blk_drewN ?_ _ | refine blk_drew ?_ | refine blk_alloc ?_ _)); refine blk_far ?_ NB273_276.out _; (with_reducible repeat (first | refine blk_drewN ?_ _ | refine blk_drew ?_ | refine blk_alloc ?_ _)); refine blk_far ?_ NB273_276.out _; (with_reducible repeat (first | refine blk_drewN ?_ _ | refine blk_drew ?_ | refine blk_alloc ?_ _)); exact BK273.out) Try.underlying32 rfl (by kernel_rfl)) rfl ?_
              exact ⟨by first | rfl | (simp [errW_none, errW_some] <;> rfl) | (simp only [← hji14]; first | rfl | (simp [errW_none, errW_some] <;> rfl)) | (simp [*, errW_none, errW_some] <;> rfl), qq34 HB.out GE273.out GE276.out⟩
            · rw [if_neg c16] at H
              exact absurd H (by simp)
          · rw [if_neg c15] at H
            exact absurd H (by simp)

end Go.Proofs.Ytmcfhmflncghiaa.Q
namespace Go.Proofs.Ytmcfhmflncghiaa.Q
open Go.RowKit Go.Proofs.YtmcfhmflncghiaaW.PrintWords Go.Proofs.YtmcfhmflncghiaaW.PrintLast Go.Proofs.YtmcfhmflncghiaaW.PrintMore
attribute [local go_sem] max2_int min2_int max_two min_two max_three min_three max_four min_four
set_option linter.unusedVariables false
set_option linter.unusedSimpArgs false

/-! ### impl_LoopIs: function 50 -/
mutual
def impl_LoopIs.j0 : Nat → List (S32) → List Int → Bool → Option (Bool)
  | 0, _, _, _ => none
  | k + 1, x1, x2, x27 => if x27 = true then (some false) else (if 0 ≤ (wrap64 ((x2.length : Int) - 1)) then (if (wrap64 ((x2.length : Int) - 1)) < (x2.length : Int) then ((impl_numberRun.f k x1 (rd x2 (wrap64 ((x2.length : Int) - 1)))).bind fun bt279 => (if bt279.2.2.2.2 = true then (impl_LoopIs.l0 k x1 bt279.2.1 x2 (x2.length : Int) 0) else (some false))) else (none)) else (none))
def impl_LoopIs.l0 : Nat → List (S32) → Int → List Int → Int → Int → Option (Bool)
  | 0, _, _, _, _, _ => none
  | k + 1, x1, x9, x43, x44, x45 => if x45 < x44 then (if 0 ≤ x45 then (if x45 < (x43.length : Int) then ((impl_numberRun.f k x1 (rd x43 x45)).bind fun bt286 => (if bt286.2.2.2.2 = true then (if bt286.1 = x9 then (impl_LoopIs.l0 k x1 bt286.2.1 x43 x44 (wrap64 (x45 + 1))) else (some false)) else (some false))) else (none)) else (none)) else (some true)
end
def impl_LoopIs.f (k : Nat) (a0 : Int) (l1 : List (S32)) (l2 : List Int) : Option (Bool) := (impl_NetValid.f k a0 l1).bind fun t277 => (if t277 = true then (if (l2.length : Int) < 1 then (impl_LoopIs.j0 k l1 l2 true) else (impl_LoopIs.j0 k l1 l2 (decide ((l2.length : Int) > 12)))) else (impl_LoopIs.j0 k l1 l2 true))
set_option maxHeartbeats 8000000 in
set_option maxRecDepth 100000 in
theorem impl_LoopIs.calls (k : Nat) (a0 : Int) (A1 : Option Addr) (c1 : Nat) (l1 : List (S32)) (A2 : Option Addr) (c2 : Nat) (l2 : List Int) (r : Bool) (w : World) (hr1 : Kd.C k32 w A1 l1.length l1) (hc1 : l1.length ≤ c1) (hr2 : Kd.C (Kd.int .i64) w A2 l2.length l2) (hc2 : l2.length ≤ c2) (h : impl_LoopIs.f k a0 l1 l2 = some r) :
    Calls Try.prog 50 #[.int .i64 a0, .slice A1 l1.length c1, .slice A2 l2.length c2] w fun e w' => e = .returned (.bool r) ∧ Below w.heap.size w w' := by
  have hu32 := Try.underlying32
  have HR1 := Aside0.mk hr1
  have HC1 := Aside0.mk hc1
  clear hr1 hc1
  have HR2 := Aside0.mk hr2
  have HC2 := Aside0.mk hc2
  clear hr2 hc2
  have HB := Aside0.mk (Below.refl w.heap.size w)
  have H : ((impl_NetValid.f k a0 l1).bind fun t277 => (if t277 = true then (if (l2.length : Int) < 1 then (impl_LoopIs.j0 k l1 l2 true) else (impl_LoopIs.j0 k l1 l2 (decide ((l2.length : Int) > 12)))) else (impl_LoopIs.j0 k l1 l2 true))) = some r := h
  clear h
  have HC4 := Aside0.mk H
  clear H
  go_enter Try.func50, Try.ntmps50
  go_upto_region 1 with (fail)
  go_cut [27] (fun v27 wc => ∃ (kq : Nat) (x27_3 : Bool), v27 = .bool x27_3 ∧ Aside0 (impl_LoopIs.j0 kq l1 l2 x27_3 = some r) ∧ Aside0 (kq ≤ k) ∧ Aside0 (Below w.heap.size w wc))
  case first =>
    have H := HC4.out
    clear HC4
    replace H := Option.bind_eq_some_iff.mp H
    obtain ⟨t277, A50, H⟩ := H
    replace H : (if t277 = true then (if (l2.length : Int) < 1 then (impl_LoopIs.j0 k l1 l2 true) else (impl_LoopIs.j0 k l1 l2 (decide ((l2.length : Int) > 12)))) else (impl_LoopIs.j0 k l1 l2 true)) = some r := H
    have A5 := Aside0.mk A50
    clear A50
    by_cases c6 : t277 = true
    · subst c6
      have H1 : (if (l2.length : Int) < 1 then (impl_LoopIs.j0 k l1 l2 true) else (impl_LoopIs.j0 k l1 l2 (decide ((l2.length : Int) > 12)))) = some r := by rw [if_pos rfl] at H; exact H
      clear H
      have H := H1
      clear H1
      by_cases c7 : (l2.length : Int) < 1
      · rw [if_pos c7] at H
        have c7b0 : decide ((l2.length : Int) < 1) = true := decide_eq_true c7
        have c7b1 : decide (l2.length < 1) = true := decide_eq_true (by omega)
        clear c7
        (first | rw [c7b0] | (simp only [i64_w, i32_w]; rw [c7b0]) | skip)
        have H' := Aside0.mk H
        clear H
        go_wp2_with (first | ((with_reducible refine gate_callee (f := 23) rfl ?_); refine goesL_ (some 16) rfl rfl Try.func23 (by kernel_rfl) rfl #[.int .i64 a0, .slice A1 l1.length c1] rfl qq5 ?_; (with_reducible refine (impl_NetValid.calls k a0 _ _ l1 true _ ?side1 ?side2 A5.out).mono ?_); (case side1 => exact qq35); (case side2 => exact HC1.out); rintro e w8 ⟨rfl, hb⟩; refine ⟨_, rfl, ?_⟩; have n0_ := Aside0.mk (below_step qq1 hb); clear HB; have HB := n0_; clear n0_; (try clear hb); (try clear hb2); (try clear hk); (try clear hi)))
        go_meet
        case rel => exact ⟨_, (true), qq13, H', ⟨qq37⟩, ⟨qq1⟩⟩
      · rw [if_neg c7] at H
        have c7b0 : decide ((l2.length : Int) < 1) = false := decide_eq_false c7
        have c7b1 : decide (l2.length < 1) = false := decide_eq_false (by omega)
        clear c7
        (first | rw [c7b0] | (simp only [i64_w, i32_w]; rw [c7b0]) | skip)
        have H' := Aside0.mk H
        clear H
        go_wp2_with (first | ((with_reducible refine gate_callee (f := 23) rfl ?_); refine goesL_ (some 16) rfl rfl Try.func23 (by kernel_rfl) rfl #[.int .i64 a0, .slice A1 l1.length c1] rfl qq5 ?_; (with_reducible refine (impl_NetValid.calls k a0 _ _ l1 true _ ?side1 ?side2 A5.out).mono ?_); (case side1 => exact qq35); (case side2 => exact HC1.out); rintro e w9 ⟨rfl, hb⟩; refine ⟨_, rfl, ?_⟩; have n0_ := Aside0.mk (below_step qq1 hb); clear HB; have HB := n0_; clear n0_; (try clear hb); (try clear hb2); (try clear hk); (try clear hi)))
        go_meet
        case rel => exact ⟨_, (decide ((l2.length : Int) > 12)), qq13, H', ⟨qq37⟩, ⟨qq1⟩⟩
    · replace c6 := Bool.eq_false_iff.mpr c6
      subst c6
      have H1 : (impl_LoopIs.j0 k l1 l2 true) = some r := by rw [if_neg (show ¬ (false = true) by decide)] at H; exact H
      clear H
      have H := H1
      clear H1
      have H' := Aside0.mk H
      clear H
      go_wp2_with (first | ((with_reducible refine gate_callee (f := 23) rfl ?_); refine goesL_ (some 16) rfl rfl Try.func23 (by kernel_rfl) rfl #[.int .i64 a0, .slice A1 l1.length c1] rfl qq5 ?_; (with_reducible refine (impl_NetValid.calls k a0 _ _ l1 false _ ?side1 ?side2 A5.out).mono ?_); (case side1 => exact qq35); (case side2 => exact HC1.out); rintro e w10 ⟨rfl, hb⟩; refine ⟨_, rfl, ?_⟩; have n0_ := Aside0.mk (below_step qq1 hb); clear HB; have HB := n0_; clear n0_; (try clear hb); (try clear hb2); (try clear hk); (try clear hi)))
      go_meet
      case rel => exact ⟨_, (true), qq13, H', ⟨qq37⟩, ⟨qq1⟩⟩
  case rest =>
    clear HC4
    try clear c1
    try clear c2
    try clear p2
    try clear c5
    try clear c6
    try clear c7
    try clear c7b0
    try clear c7b1
    obtain ⟨kq, x27_3, rfl, HA, HJ3, HB⟩ := hcut
    cases kq with
    | zero => exact absurd HA.out (by simp [impl_LoopIs.j0])
    | succ kj3 =>
      have H := HA.out
      clear HA
      simp only [impl_LoopIs.j0] at H
      by_cases c11 : x27_3 = true
      · subst c11
        have H1 : (some false) = some r := by rw [if_pos rfl] at H; exact H
        clear H
        have H := H1
        clear H1
        obtain rfl := Option.some.inj H
        go_wp2
        go_ret
        exact ⟨qq11, qq1⟩
      · replace c11 := Bool.eq_false_iff.mpr c11
        subst c11
        have H1 : (if 0 ≤ (wrap64 ((l2.length : Int) - 1)) then (if (wrap64 ((l2.length : Int) - 1)) < (l2.length : Int) then ((impl_numberRun.f kj3 l1 (rd l2 (wrap64 ((l2.length : Int) - 1)))).bind fun bt279 => (if bt279.2.2.2.2 = true then (impl_LoopIs.l0 kj3 l1 bt279.2.1 l2 (l2.length : Int) 0) else (some false))) else (none)) else (none)) = some r := by rw [if_neg (show ¬ (false = true) by decide)] at H; exact H
        clear H
        have H := H1
        clear H1
        obtain ⟨ji12, hji12⟩ : ∃ j_ : Int, (wrap64 ((l2.length : Int) - 1)) = j_ := ⟨_, rfl⟩
        replace H : (if 0 ≤ (ji12) then (if (ji12) < (l2.length : Int) then ((impl_numberRun.f kj3 l1 (rd l2 (ji12))).bind fun bt279 => (if bt279.2.2.2.2 = true then (impl_LoopIs.l0 kj3 l1 bt279.2.1 l2 (l2.length : Int) 0) else (some false))) else (none)) else (none)) = some r := by first | (rw [hji12] at H; exact H) | (simp only [hji12] at H ⊢; exact H)
        have hji12w : (IntKind.i64.wrap ((l2.length : Int) - 1)) = ji12 := (i64_w _).trans hji12
        by_cases c13 : 0 ≤ (ji12)
        · rw [if_pos c13] at H
          have c13b0 : decide (0 ≤ (ji12)) = true := decide_eq_true c13
          clear c13
          by_cases c14 : (ji12) < (l2.length : Int)
          · rw [if_pos c14] at H
            have c14b0 : decide ((ji12) < (l2.length : Int)) = true := decide_eq_true c14
            clear c14
            replace H := Option.bind_eq_some_iff.mp H
            obtain ⟨⟨t279, t280, t281, t282, t283⟩, A150, H⟩ := H
            replace H : (if t283 = true then (impl_LoopIs.l0 kj3 l1 t280 l2 (l2.length : Int) 0) else (some false)) = some r := H
            have A15 := Aside0.mk A150
            clear A150
            by_cases c16 : t283 = true
            · subst c16
              have H1 : (impl_LoopIs.l0 kj3 l1 t280 l2 (l2.length : Int) 0) = some r := by rw [if_pos rfl] at H; exact H
              clear H
              have H := H1
              clear H1
              have H' := Aside0.mk H
              clear H
              have p278 : 0 ≤ ((ji12) : Int) := of_decide_eq_true qq3
              have q278 : (ji12) < (l2.length : Int) := of_decide_eq_true qq3
              obtain ⟨ad278, e278, hx278_0⟩ := Kd.at_int HR2.out (ji12) p278 q278
              cases e278
              replace hx278_0 := (HB.out.cell (World.block_lt_of_cell? w _ hx278_0)).trans hx278_0
              replace p278 := eq_true p278
              replace q278 := eq_true q278
              go_wp2_with (first | ((with_reducible refine gate_callee (f := 51) rfl ?_); refine goesL_ (some 36) rfl rfl Try.func51 (by kernel_rfl) rfl #[.slice A1 l1.length c1, .int .i64 (rd l2 (ji12))] rfl qq67 ?_; (with_reducible refine (impl_numberRun.calls kj3 _ _ l1 (rd l2 (ji12)) t279 t280 t281 t282 true _ ?side1 ?side2 A15.out).mono ?_); (case side1 => exact qq35); (case side2 => exact HC1.out); rintro e w17 ⟨rfl, hb⟩; refine ⟨_, rfl, ?_⟩; have n0_ := Aside0.mk (below_step qq1 hb); clear HB; have HB := n0_; clear n0_; (try clear hb); (try clear hb2); (try clear hk); (try clear hi)) | ((with_reducible refine gate_dst (N := 7) rfl ?_); (try (refine gate_guard (by rfl) ?_; dsimp only)); refine box_event ?hg (N := 7) ?hd (cs := #[.int .i64 0, .int .i64 0, .int .i64 0, .int .i64 0]) (t := 32) ?hr ?_; (case hd => rfl); (case hg => rfl); (case hr => exact qq16); intro gb284 hg w18 hbox hb; have n0_ := Aside0.mk (below_step qq1 hb); have n1_ := Aside0.mk (hbox); have n2_ := Aside0.mk ((qq33 : w.heap.size ≤ gb284)); have n3_ := Aside0.mk ((qq33 : w.heap.size ≤ gb284)); clear HB; have HB := n0_; have BK284 := n1_; have GW284 := n2_; have GE284 := n3_; clear n0_ n1_ n2_ n3_; clear hb hbox hg; have hcz19_0 : w18.cell? ⟨gb284, 0, none⟩ = some (.int .i64 0) := (blk_cell BK284.out 0).trans rfl; have hcz19_1 : w18.cell? ⟨gb284, 1, none⟩ = some (.int .i64 0) := (blk_cell BK284.out 1).trans rfl; have hcz19_2 : w18.cell? ⟨gb284, 2, none⟩ = some (.int .i64 0) := (blk_cell BK284.out 2).trans rfl; have hcz19_3 : w18.cell? ⟨gb284, 3, none⟩ = some (.int .i64 0) := (blk_cell BK284.out 3).trans rfl; have hfz19_0 := blk_frozen BK284.out 0; have hfz19_1 := blk_frozen BK284.out 1; have hfz19_2 := blk_frozen BK284.out 2; have hfz19_3 := blk_frozen BK284.out 3))
              go_loopg [9, 45] kj3 (fun kq v9 v45 w' => ∃ (x9_2 : Int) (x45_2 : Int), v9 = .int .i64 x9_2 ∧ v45 = .int .i64 x45_2 ∧ Aside0 (impl_LoopIs.l0 kq l1 x9_2 l2 (l2.length : Int) x45_2 = some r) ∧ Aside0 (kq ≤ kj3) ∧ Aside0 (w'.heap[gb284]? = some (.cells #[.int .i64 t279, .int .i64 t280, .int .i64 t281, .int .i64 t282] 32 (0, 0))) ∧ Aside0 (Below w.heap.size w w'))
              case atStart => exact ⟨(t280), (0), qq13, qq13, H', ⟨Nat.le_refl _⟩, ⟨by (with_reducible repeat (first | refine blk_drewN ?_ _ | refine blk_drew ?_ | refine blk_alloc ?_ _)); refine blk_put (cs := #[.int .i64 t279, .int .i64 t280, .int .i64 t281, .int .i64 0]) ?_ 3 _ rfl; (with_reducible repeat (first | refine blk_drewN ?_ _ | refine blk_drew ?_ | refine blk_alloc ?_ _)); refine blk_put (cs := #[.int .i64 t279, .int .i64 t280, .int .i64 0, .int .i64 0]) ?_ 2 _ rfl; (with_reducible repeat (first | refine blk_drewN ?_ _ | refine blk_drew ?_ | refine blk_alloc ?_ _)); refine blk_put (cs := #[.int .i64 t279, .int .i64 0, .int .i64 0, .int .i64 0]) ?_ 1 _ rfl; (with_reducible repeat (first | refine blk_drewN ?_ _ | refine blk_drew ?_ | refine blk_alloc ?_ _)); refine blk_put (cs := #[.int .i64 0, .int .i64 0, .int .i64 0, .int .i64 0]) ?_ 0 _ rfl; (with_reducible repeat (first | refine blk_drewN ?_ _ | refine blk_drew ?_ | refine blk_alloc ?_ _)); exact BK284.out⟩, ⟨qq4 HB.out GE284.out⟩⟩
              case round =>
                clear H'
                try clear c1
                try clear c2
                try clear p2
                try clear q2
                try clear hx2
                try clear c5
                try clear c6
                try clear p6
                try clear c7
                try clear c7b0
                try clear c7b1
                try clear c11
                try clear c13
                try clear c13b0
                try clear c14
                try clear c14b0
                try clear c16
                try clear hcz19_0
                try clear hcz19_1
                try clear hcz19_2
                try clear hcz19_3
                try clear hfz19_0
                try clear hfz19_1
                try clear hfz19_2
                try clear hfz19_3
                try clear hx278_0
                try clear p2
                try clear p278
                try clear q278
                obtain ⟨x9_2, x45_2, rfl, rfl, HA, HK2, BK284, HB⟩ := hrel
                cases gk with
                | zero => exact absurd HA.out (by simp [impl_LoopIs.l0])
                | succ k2 =>
                  have H := HA.out
                  clear HA
                  simp only [impl_LoopIs.l0] at H
                  by_cases c20 : x45_2 < (l2.length : Int)
                  · rw [if_pos c20] at H
                    have c20b0 : decide (x45_2 < (l2.length : Int)) = true := decide_eq_true c20
                    clear c20
                    by_cases c21 : 0 ≤ x45_2
                    · rw [if_pos c21] at H
                      have c21b0 : decide (0 ≤ x45_2) = true := decide_eq_true c21
                      clear c21
                      by_cases c22 : x45_2 < (l2.length : Int)
                      · rw [if_pos c22] at H
                        have c22b0 : decide (x45_2 < (l2.length : Int)) = true := decide_eq_true c22
                        clear c22
                        replace H := Option.bind_eq_some_iff.mp H
                        obtain ⟨⟨t286, t287, t288, t289, t290⟩, A230, H⟩ := H
                        replace H : (if t290 = true then (if t286 = x9_2 then (impl_LoopIs.l0 k2 l1 t287 l2 (l2.length : Int) (wrap64 (x45_2 + 1))) else (some false)) else (some false)) = some r := H
                        have A23 := Aside0.mk A230
                        clear A230
                        by_cases c24 : t290 = true
                        · subst c24
                          have H1 : (if t286 = x9_2 then (impl_LoopIs.l0 k2 l1 t287 l2 (l2.length : Int) (wrap64 (x45_2 + 1))) else (some false)) = some r := by rw [if_pos rfl] at H; exact H
                          clear H
                          have H := H1
                          clear H1
                          by_cases c25 : t286 = x9_2
                          · rw [if_pos c25] at H
                            have c25b0 : (t286 == x9_2) = true := beq_iff_eq.mpr c25
                            have c25b1 : (t286 != x9_2) = false := bne_eq_false_iff_eq.mpr c25
                            clear c25
                            have H' := Aside0.mk H
                            clear H
                            have p285 : 0 ≤ (x45_2 : Int) := of_decide_eq_true qq3
                            have q285 : x45_2 < (l2.length : Int) := of_decide_eq_true qq3
                            obtain ⟨ad285, e285, hx285_0⟩ := Kd.at_int HR2.out x45_2 p285 q285
                            obtain rfl : ad278 = ad285 := (by injection e285)
                            replace hx285_0 := (HB.out.cell (World.block_lt_of_cell? w _ hx285_0)).trans hx285_0
                            replace p285 := eq_true p285
                            replace q285 := eq_true q285
                            go_wp2_with (first | ((with_reducible refine gate_callee (f := 51) rfl ?_); refine goesL_ (some 52) rfl rfl Try.func51 (by kernel_rfl) rfl #[.slice A1 l1.length c1, .int .i64 (rd l2 x45_2)] rfl qq5 ?_; (with_reducible refine (impl_numberRun.calls k2 _ _ l1 (rd l2 x45_2) t286 t287 t288 t289 true _ ?side1 ?side2 A23.out).mono ?_); (case side1 => exact qq35); (case side2 => exact HC1.out); rintro e w26 ⟨rfl, hb⟩; refine ⟨_, rfl, ?_⟩; have n0_ := Aside0.mk (bbl_ BK284.out hb); have n1_ := Aside0.mk (below_step (qq4 HB.out GE284.out) hb); clear BK284; clear HB; have BK284 := n0_; have HB := n1_; clear n0_ n1_; (try clear hb); (try clear hb2); (try clear hk); (try clear hi)) | ((with_reducible refine gate_dst (N := 12) rfl ?_); (try (refine gate_guard (by rfl) ?_; dsimp only)); refine box_event ?hg (N := 12) ?hd (cs := #[.int .i64 0, .int .i64 0, .int .i64 0, .int .i64 0]) (t := 32) ?hr ?_; (case hd => rfl); (case hg => rfl); (case hr => exact qq16); intro gb291 hg w27 hbox hb; have n0_ := Aside0.mk (bbl_ BK284.out hb); have n1_ := Aside0.mk (below_step (qq4 HB.out GE284.out) hb); have n2_ := Aside0.mk (hbox); have n3_ := Aside0.mk ((qq58 : w.heap.size ≤ gb291)); have n4_ := Aside0.mk ((qq58 : w.heap.size ≤ gb291)); have n5_ := Aside0.mk ((qq78 : gb284 ≠ gb291)); have n6_ := Aside0.mk ((qq79 : gb291 ≠ gb284)); clear BK284; clear HB; have BK284 := n0_; have HB := n1_; have BK291 := n2_; have GW291 := n3_; have GE291 := n4_; have NB284_291 := n5_; have NB291_284 := n6_; clear n0_ n1_ n2_ n3_ n4_ n5_ n6_; clear hb hbox hg; have hnb28 := NB291_284.out; have hnc28 := NB284_291.out; have hcz29_0 : w27.cell? ⟨gb291, 0, none⟩ = some (.int .i64 0) := (blk_cell BK291.out 0).trans rfl; have hcz29_1 : w27.cell? ⟨gb291, 1, none⟩ = some (.int .i64 0) := (blk_cell BK291.out 1).trans rfl; have hcz29_2 : w27.cell? ⟨gb291, 2, none⟩ = some (.int .i64 0) := (blk_cell BK291.out 2).trans rfl; have hcz29_3 : w27.cell? ⟨gb291, 3, none⟩ = some (.int .i64 0) := (blk_cell BK291.out 3).trans rfl; have hfz29_0 := blk_frozen BK291.out 0; have hfz29_1 := blk_frozen BK291.out 1; have hfz29_2 := blk_frozen BK291.out 2; have hfz29_3 := blk_frozen BK291.out 3))
                            go_roundg k2
                            case measure => have := HJ3.out; have := HK2.out; omega
                            case rel => exact ⟨(t287), (wrap64 (x45_2 + 1)), qq13, qq13, H', ⟨qq76 HJ3.out HK2.out⟩, ⟨by (with_reducible repeat (first | refine blk_drewN ?_ _ | refine blk_drew ?_ | refine blk_alloc ?_ _)); refine blk_far ?_ NB284_291.out _; (with_reducible repeat (first | refine blk_drewN ?_ _ | refine blk_drew ?_ | refine blk_alloc ?_ _)); refine blk_far ?_ NB284_291.out _; (with_reducible repeat (first | refine blk_drewN ?_ _ | refine blk_drew ?_ | refine blk_alloc ?_ _)); refine blk_far ?_ NB284_291.out _; (with_reducible repeat (first | refine blk_drewN ?_ _ | refine blk_drew ?_ | refine blk_alloc ?_ _)); refine blk_far ?_ NB284_291.out _; (with_reducible repeat (first | refine blk_drewN ?_ _ | refine blk_drew ?_ | refine blk_alloc ?_ _)); exact BK284.out⟩, ⟨qq34 HB.out GE284.out GE291.out⟩⟩
                          · rw [if_neg c25] at H
                            have c25b0 : (t286 == x9_2) = false := beq_eq_false_iff_ne.mpr c25
                            have c25b1 : (t286 != x9_2) = true := bne_iff_ne.mpr c25
                            obtain rfl := Option.some.inj H
                            have p285 : 0 ≤ (x45_2 : Int) := of_decide_eq_true qq3
                            have q285 : x45_2 < (l2.length : Int) := of_decide_eq_true qq3
                            obtain ⟨ad285, e285, hx285_0⟩ := Kd.at_int HR2.out x45_2 p285 q285
                            obtain rfl : ad278 = ad285 := (by injection e285)
                            replace hx285_0 := (HB.out.cell (World.block_lt_of_cell? w _ hx285_0)).trans hx285_0
                            replace p285 := eq_true p285
                            replace q285 := eq_true q285
                            go_wp2_with (first | ((with_reducible refine gate_callee (f := 51) rfl ?_); refine goesL_ (some 52) rfl rfl Try.func51 (by kernel_rfl) rfl #[.slice A1 l1.length c1, .int .i64 (rd l2 x45_2)] rfl qq5 ?_; (with_reducible refine (impl_numberRun.calls k2 _ _ l1 (rd l2 x45_2) t286 t287 t288 t289 true _ ?side1 ?side2 A23.out).mono ?_); (case side1 => exact qq35); (case side2 => exact HC1.out); rintro e w30 ⟨rfl, hb⟩; refine ⟨_, rfl, ?_⟩; have n0_ := Aside0.mk (bbl_ BK284.out hb); have n1_ := Aside0.mk (below_step (qq4 HB.out GE284.out) hb); clear BK284; clear HB; have BK284 := n0_; have HB := n1_; clear n0_ n1_; (try clear hb); (try clear hb2); (try clear hk); (try clear hi)) | ((with_reducible refine gate_dst (N := 12) rfl ?_); (try (refine gate_guard (by rfl) ?_; dsimp only)); refine box_event ?hg (N := 12) ?hd (cs := #[.int .i64 0, .int .i64 0, .int .i64 0, .int .i64 0]) (t := 32) ?hr ?_; (case hd => rfl); (case hg => rfl); (case hr => exact qq16); intro gb291 hg w31 hbox hb; have n0_ := Aside0.mk (bbl_ BK284.out hb); have n1_ := Aside0.mk (below_step (qq4 HB.out GE284.out) hb); have n2_ := Aside0.mk (hbox); have n3_ := Aside0.mk ((qq58 : w.heap.size ≤ gb291)); have n4_ := Aside0.mk ((qq58 : w.heap.size ≤ gb291)); have n5_ := Aside0.mk ((qq78 : gb284 ≠ gb291)); have n6_ := Aside0.mk ((qq79 : gb291 ≠ gb284)); clear BK284; clear HB; have BK284 := n0_; have HB := n1_; have BK291 := n2_; have GW291 := n3_; have GE291 := n4_; have NB284_291 := n5_; have NB291_284 := n6_; clear n0_ n1_ n2_ n3_ n4_ n5_ n6_; clear hb hbox hg; have hnb32 := NB291_284.out; have hnc32 := NB284_291.out; have hcz33_0 : w31.cell? ⟨gb291, 0, none⟩ = some (.int .i64 0) := (blk_cell BK291.out 0).trans rfl; have hcz33_1 : w31.cell? ⟨gb291, 1, none⟩ = some (.int .i64 0) := (blk_cell BK291.out 1).trans rfl; have hcz33_2 : w31.cell? ⟨gb291, 2, none⟩ = some (.int .i64 0) := (blk_cell BK291.out 2).trans rfl; have hcz33_3 : w31.cell? ⟨gb291, 3, none⟩ = some (.int .i64 0) := (blk_cell BK291.out 3).trans rfl; have hfz33_0 := blk_frozen BK291.out 0; have hfz33_1 := blk_frozen BK291.out 1; have hfz33_2 := blk_frozen BK291.out 2; have hfz33_3 := blk_frozen BK291.out 3))
                            go_ret
                            exact ⟨qq47, qq34 HB.out GE284.out GE291.out⟩
                        · replace c24 := Bool.eq_false_iff.mpr c24
                          subst c24
                          have H1 : (some false) = some r := by rw [if_neg (show ¬ (false = true) by decide)] at H; exact H
                          clear H
                          have H := H1
                          clear H1
                          obtain rfl := Option.some.inj H
                          have p285 : 0 ≤ (x45_2 : Int) := of_decide_eq_true qq3
                          have q285 : x45_2 < (l2.length : Int) := of_decide_eq_true qq3
                          obtain ⟨ad285, e285, hx285_0⟩ := Kd.at_int HR2.out x45_2 p285 q285
                          obtain rfl : ad278 = ad285 := (by injection e285)
                          replace hx285_0 := (HB.out.cell (World.block_lt_of_cell? w _ hx285_0)).trans hx285_0
                          replace p285 := eq_true p285
                          replace q285 := eq_true q285
                          go_wp2_with (first | ((with_reducible refine gate_callee (f := 51) rfl ?_); refine goesL_ (some 52) rfl rfl Try.func51 (by kernel_rfl) rfl #[.slice A1 l1.length c1, .int .i64 (rd l2 x45_2)] rfl qq5 ?_; (with_reducible refine (impl_numberRun.calls k2 _ _ l1 (rd l2 x45_2) t286 t287 t288 t289 false _ ?side1 ?side2 A23.out).mono ?_); (case side1 => exact qq35); (case side2 => exact HC1.out); rintro e w34 ⟨rfl, hb⟩; refine ⟨_, rfl, ?_⟩; have n0_ := Aside0.mk (bbl_ BK284.out hb); have n1_ := Aside0.mk (below_step (qq4 HB.out GE284.out) hb); clear BK284; clear HB; have BK284 := n0_; have HB := n1_; clear n0_ n1_; (try clear hb); (try clear hb2); (try clear hk); (try clear hi)) | ((with_reducible refine gate_dst (N := 12) rfl ?_); (try (refine gate_guard (by rfl) ?_; dsimp only)); refine box_event ?hg (N := 12) ?hd (cs := #[.int .i64 0, .int .i64 0, .int .i64 0, .int .i64 0]) (t := 32) ?hr ?_; (case hd => rfl); (case hg => rfl); (case hr => exact qq16); intro gb291 hg w35 hbox hb; have n0_ := Aside0.mk (bbl_ BK284.out hb); have n1_ := Aside0.mk (below_step (qq4 HB.out GE284.out) hb); have n2_ := Aside0.mk (hbox); have n3_ := Aside0.mk ((qq58 : w.heap.size ≤ gb291)); have n4_ := Aside0.mk ((qq58 : w.heap.size ≤ gb291)); have n5_ := Aside0.mk ((qq78 : gb284 ≠ gb291)); have n6_ := Aside0.mk ((qq79 : gb291 ≠ gb284)); clear BK284; clear HB; have BK284 := n0_; have HB := n1_; have BK291 := n2_; have GW291 := n3_; have GE291 := n4_; have NB284_291 := n5_; have NB291_284 := n6_; clear n0_ n1_ n2_ n3_ n4_ n5_ n6_; clear hb hbox hg; have hnb36 := NB291_284.out; have hnc36 := NB284_291.out; have hcz37_0 : w35.cell? ⟨gb291, 0, none⟩ = some (.int .i64 0) := (blk_cell BK291.out 0).trans rfl; have hcz37_1 : w35.cell? ⟨gb291, 1, none⟩ = some (.int .i64 0) := (blk_cell BK291.out 1).trans rfl; have hcz37_2 : w35.cell? ⟨gb291, 2, none⟩ = some (.int .i64 0) := (blk_cell BK291.out 2).trans rfl; have hcz37_3 : w35.cell? ⟨gb291, 3, none⟩ = some (.int .i64 0) := (blk_cell BK291.out 3).trans rfl; have hfz37_0 := blk_frozen BK291.out 0; have hfz37_1 := blk_frozen BK291.out 1; have hfz37_2 := blk_frozen BK291.out 2; have hfz37_3 := blk_frozen BK291.out 3))
                          go_ret
                          exact ⟨qq47, qq34 HB.out GE284.out GE291.out⟩
                      · rw [if_neg c22] at H
                        exact absurd H (by simp)
                    · rw [if_neg c21] at H
                      exact absurd H (by simp)
                  · rw [if_neg c20] at H
                    have c20b0 : decide (x45_2 < (l2.length : Int)) = false := decide_eq_false c20
                    clear c20
                    obtain rfl := Option.some.inj H
                    go_wp2
                    go_ret
                    exact ⟨qq47, qq4 HB.out GE284.out⟩
            · replace c16 := Bool.eq_false_iff.mpr c16
              subst c16
              have H1 : (some false) = some r := by rw [if_neg (show ¬ (false = true) by decide)] at H; exact H
              clear H
              have H := H1
              clear H1
              obtain rfl := Option.some.inj H
              have p278 : 0 ≤ ((ji12) : Int) := of_decide_eq_true qq3
              have q278 : (ji12) < (l2.length : Int) := of_decide_eq_true qq3
              obtain ⟨ad278, e278, hx278_0⟩ := Kd.at_int HR2.out (ji12) p278 q278
              cases e278
              replace hx278_0 := (HB.out.cell (World.block_lt_of_cell? w _ hx278_0)).trans hx278_0
              replace p278 := eq_true p278
              replace q278 := eq_true q278
              go_wp2_with (first | ((with_reducible refine gate_callee (f := 51) rfl ?_); refine goesL_ (some 36) rfl rfl Try.func51 (by kernel_rfl) rfl #[.slice A1 l1.length c1, .int .i64 (rd l2 (ji12))] rfl qq67 ?_; (with_reducible refine (impl_numberRun.calls kj3 _ _ l1 (rd l2 (ji12)) t279 t280 t281 t282 false _ ?side1 ?side2 A15.out).mono ?_); (case side1 => exact qq35); (case side2 => exact HC1.out); rintro e w38 ⟨rfl, hb⟩; refine ⟨_, rfl, ?_⟩; have n0_ := Aside0.mk (below_step qq1 hb); clear HB; have HB := n0_; clear n0_; (try clear hb); (try clear hb2); (try clear hk); (try clear hi)) | ((with_reducible refine gate_dst (N := 7) rfl ?_); (try (refine gate_guard (by rfl) ?_; dsimp only)); refine box_event ?hg (N := 7) ?hd (cs := #[.int .i64 0, .int .i64 0, .int .i64 0, .int .i64 0]) (t := 32) ?hr ?_; (case hd => rfl); (case hg => rfl); (case hr => exact qq16); intro gb284 hg w39 hbox hb; have n0_ := Aside0.mk (below_step qq1 hb); have n1_ := Aside0.mk (hbox); have n2_ := Aside0.mk ((qq33 : w.heap.size ≤ gb284)); have n3_ := Aside0.mk ((qq33 : w.heap.size ≤ gb284)); clear HB; have HB := n0_; have BK284 := n1_; have GW284 := n2_; have GE284 := n3_; clear n0_ n1_ n2_ n3_; clear hb hbox hg; have hcz40_0 : w39.cell? ⟨gb284, 0, none⟩ = some (.int .i64 0) := (blk_cell BK284.out 0).trans rfl; have hcz40_1 : w39.cell? ⟨gb284, 1, none⟩ = some (.int .i64 0) := (blk_cell BK284.out 1).trans rfl; have hcz40_2 : w39.cell? ⟨gb284, 2, none⟩ = some (.int .i64 0) := (blk_cell BK284.out 2).trans rfl; have hcz40_3 : w39.cell? ⟨gb284, 3, none⟩ = some (.int .i64 0) := (blk_cell BK284.out 3).trans rfl; have hfz40_0 := blk_frozen BK284.out 0; have hfz40_1 := blk_frozen BK284.out 1; have hfz40_2 := blk_frozen BK284.out 2; have hfz40_3 := blk_frozen BK284.out 3))
              go_ret
              exact ⟨qq47, qq4 HB.out GE284.out⟩
          · rw [if_neg c14] at H
            exact absurd H (by simp)
        · rw [if_neg c13] at H
          exact absurd H (by simp)

end Go.Proofs.Ytmcfhmflncghiaa.Q
namespace Go.Proofs.Ytmcfhmflncghiaa.Q
open Go.RowKit Go.Proofs.YtmcfhmflncghiaaW.PrintWords Go.Proofs.YtmcfhmflncghiaaW.PrintLast Go.Proofs.YtmcfhmflncghiaaW.PrintMore
attribute [local go_sem] max2_int min2_int max_two min_two max_three min_three max_four min_four
set_option linter.unusedVariables false
set_option linter.unusedSimpArgs false

/-! ### impl_LoopError: function 31 -/
def impl_LoopError.l0 : Nat → List (S32) → Int → List Int → Int → Int → Option (Int × Bool)
  | 0, _, _, _, _, _ => none
  | k + 1, x1, x8, x18, x19, x20 => if x20 < x19 then (if 0 ≤ x20 then (if x20 < (x18.length : Int) then ((impl_numberRun.f k x1 (rd x18 x20)).bind fun bt294 => (impl_LoopError.l0 k x1 (wrap64 (x8 + bt294.2.2.1)) x18 x19 (wrap64 (x20 + 1)))) else (none)) else (none)) else (some (x8, true))
def impl_LoopError.f (k : Nat) (a0 : Int) (l1 : List (S32)) (l2 : List Int) : Option (Int × Bool) := (impl_LoopIs.f k a0 l1 l2).bind fun t292 => (if t292 = true then (impl_LoopError.l0 k l1 0 l2 (l2.length : Int) 0) else (some (0, false)))
set_option maxHeartbeats 8000000 in
set_option maxRecDepth 100000 in
theorem impl_LoopError.calls (k : Nat) (a0 : Int) (A1 : Option Addr) (c1 : Nat) (l1 : List (S32)) (A2 : Option Addr) (c2 : Nat) (l2 : List Int) (r1 : Int) (r2 : Bool) (w : World) (hr1 : Kd.C k32 w A1 l1.length l1) (hc1 : l1.length ≤ c1) (hr2 : Kd.C (Kd.int .i64) w A2 l2.length l2) (hc2 : l2.length ≤ c2) (h : impl_LoopError.f k a0 l1 l2 = some (r1, r2)) :
    Calls Try.prog 31 #[.int .i64 a0, .slice A1 l1.length c1, .slice A2 l2.length c2] w fun e w' => e = .returned (.tuple #[.int .i64 r1, .bool r2]) ∧ Below w.heap.size w w' := by
  have hu32 := Try.underlying32
  have HR1 := Aside0.mk hr1
  have HC1 := Aside0.mk hc1
  clear hr1 hc1
  have HR2 := Aside0.mk hr2
  have HC2 := Aside0.mk hc2
  clear hr2 hc2
  have HB := Aside0.mk (Below.refl w.heap.size w)
  have H : ((impl_LoopIs.f k a0 l1 l2).bind fun t292 => (if t292 = true then (impl_LoopError.l0 k l1 0 l2 (l2.length : Int) 0) else (some (0, false)))) = some (r1, r2) := h
  clear h
  replace H := Option.bind_eq_some_iff.mp H
  obtain ⟨t292, A40, H⟩ := H
  replace H : (if t292 = true then (impl_LoopError.l0 k l1 0 l2 (l2.length : Int) 0) else (some (0, false))) = some (r1, r2) := H
  have A4 := Aside0.mk A40
  clear A40
  by_cases c5 : t292 = true
  · subst c5
    have H1 : (impl_LoopError.l0 k l1 0 l2 (l2.length : Int) 0) = some (r1, r2) := by rw [if_pos rfl] at H; exact H
    clear H
    have H := H1
    clear H1
    have H' := Aside0.mk H
    clear H
    go_enter Try.func31, Try.ntmps31
    go_wp2_with (first | ((with_reducible refine gate_callee (f := 50) rfl ?_); refine goesL_ (some 16) rfl rfl Try.func50 (by kernel_rfl) rfl #[.int .i64 a0, .slice A1 l1.length c1, .slice A2 l2.length c2] rfl qq5 ?_; (with_reducible refine (impl_LoopIs.calls k a0 _ _ l1 _ _ l2 true _ ?side1 ?side2 ?side3 ?side4 A4.out).mono ?_); (case side1 => exact qq15 HR1.out); (case side2 => exact HC1.out); (case side3 => exact qq15 HR2.out); (case side4 => exact HC2.out); rintro e w6 ⟨rfl, hb⟩; refine ⟨_, rfl, ?_⟩; have n0_ := Aside0.mk (below_step qq1 hb); clear HB; have HB := n0_; clear n0_; (try clear hb); (try clear hb2); (try clear hk); (try clear hi)))
    go_loopg [8, 20] k (fun kq v8 v20 w' => ∃ (x8_1 : Int) (x20_1 : Int), v8 = .int .i64 x8_1 ∧ v20 = .int .i64 x20_1 ∧ Aside0 (impl_LoopError.l0 kq l1 x8_1 l2 (l2.length : Int) x20_1 = some (r1, r2)) ∧ Aside0 (kq ≤ k) ∧ Aside0 (Below w.heap.size w w'))
    case atStart => exact ⟨(0), (0), qq13, qq13, H', ⟨Nat.le_refl _⟩, ⟨qq1⟩⟩
    case round =>
      clear H'
      try clear c1
      try clear c2
      try clear p2
      try clear c3
      try clear c5
      obtain ⟨x8_1, x20_1, rfl, rfl, HA, HK1, HB⟩ := hrel
      cases gk with
      | zero => exact absurd HA.out (by simp [impl_LoopError.l0])
      | succ k1 =>
        have H := HA.out
        clear HA
        simp only [impl_LoopError.l0] at H
        by_cases c7 : x20_1 < (l2.length : Int)
        · rw [if_pos c7] at H
          have c7b0 : decide (x20_1 < (l2.length : Int)) = true := decide_eq_true c7
          clear c7
          by_cases c8 : 0 ≤ x20_1
          · rw [if_pos c8] at H
            have c8b0 : decide (0 ≤ x20_1) = true := decide_eq_true c8
            clear c8
            by_cases c9 : x20_1 < (l2.length : Int)
            · rw [if_pos c9] at H
              have c9b0 : decide (x20_1 < (l2.length : Int)) = true := decide_eq_true c9
              clear c9
              replace H := Option.bind_eq_some_iff.mp H
              obtain ⟨⟨t294, t295, t296, t297, t298⟩, A100, H⟩ := H
              replace H : (impl_LoopError.l0 k1 l1 (wrap64 (x8_1 + t296)) l2 (l2.length : Int) (wrap64 (x20_1 + 1))) = some (r1, r2) := H
              have A10 := Aside0.mk A100
              clear A100
              have H' := Aside0.mk H
              clear H
              have p293 : 0 ≤ (x20_1 : Int) := of_decide_eq_true qq3
              have q293 : x20_1 < (l2.length : Int) := of_decide_eq_true qq3
              obtain ⟨ad293, e293, hx293_0⟩ := Kd.at_int HR2.out x20_1 p293 q293
              cases e293
              replace hx293_0 := (HB.out.cell (World.block_lt_of_cell? w _ hx293_0)).trans hx293_0
              replace p293 := eq_true p293
              replace q293 := eq_true q293
              go_wp2_with (first | ((with_reducible refine gate_callee (f := 51) rfl ?_); refine goesL_ (some 27) rfl rfl Try.func51 (by kernel_rfl) rfl #[.slice A1 l1.length c1, .int .i64 (rd l2 x20_1)] rfl qq5 ?_; (with_reducible refine (impl_numberRun.calls k1 _ _ l1 (rd l2 x20_1) t294 t295 t296 t297 t298 _ ?side1 ?side2 A10.out).mono ?_); (case side1 => exact qq35); (case side2 => exact HC1.out); rintro e w11 ⟨rfl, hb⟩; refine ⟨_, rfl, ?_⟩; have n0_ := Aside0.mk (below_step qq1 hb); clear HB; have HB := n0_; clear n0_; (try clear hb); (try clear hb2); (try clear hk); (try clear hi)) | ((with_reducible refine gate_dst (N := 11) rfl ?_); refine box_event ?hg (N := 11) ?hd (cs := #[.int .i64 0, .int .i64 0, .int .i64 0, .int .i64 0]) (t := 32) ?hr ?_; (case hd => rfl); (case hg => rfl); (case hr => exact qq16); intro gb299 hg w12 hbox hb; have n0_ := Aside0.mk (below_step qq1 hb); have n1_ := Aside0.mk (hbox); have n2_ := Aside0.mk ((qq33 : w.heap.size ≤ gb299)); have n3_ := Aside0.mk ((qq33 : w.heap.size ≤ gb299)); clear HB; have HB := n0_; have BK299 := n1_; have GW299 := n2_; have GE299 := n3_; clear n0_ n1_ n2_ n3_; clear hb hbox hg; have hcz13_0 : w12.cell? ⟨gb299, 0, none⟩ = some (.int .i64 0) := (blk_cell BK299.out 0).trans rfl; have hcz13_1 : w12.cell? ⟨gb299, 1, none⟩ = some (.int .i64 0) := (blk_cell BK299.out 1).trans rfl; have hcz13_2 : w12.cell? ⟨gb299, 2, none⟩ = some (.int .i64 0) := (blk_cell BK299.out 2).trans rfl; have hcz13_3 : w12.cell? ⟨gb299, 3, none⟩ = some (.int .i64 0) := (blk_cell BK299.out 3).trans rfl; have hfz13_0 := blk_frozen BK299.out 0; have hfz13_1 := blk_frozen BK299.out 1; have hfz13_2 := blk_frozen BK299.out 2; have hfz13_3 := blk_frozen BK299.out 3))
              go_roundg k1
              case measure => have := HK1.out; omega
              case rel => exact ⟨(wrap64 (x8_1 + t296)), (wrap64 (x20_1 + 1)), qq13, qq13, H', ⟨by have := HK1.out; omega⟩, ⟨qq4 HB.out GE299.out⟩⟩
            · rw [if_neg c9] at H
              exact absurd H (by simp)
          · rw [if_neg c8] at H
            exact absurd H (by simp)
        · rw [if_neg c7] at H
          have c7b0 : decide (x20_1 < (l2.length : Int)) = false := decide_eq_false c7
          clear c7
          simp only [Option.some.injEq, Prod.mk.injEq] at H
          obtain ⟨rfl, rfl⟩ := H
          go_wp2
          go_ret2
          exact ⟨qq11, qq1⟩
  · replace c5 := Bool.eq_false_iff.mpr c5
    subst c5
    have H1 : (some (0, false)) = some (r1, r2) := by rw [if_neg (show ¬ (false = true) by decide)] at H; exact H
    clear H
    have H := H1
    clear H1
    simp only [Option.some.injEq, Prod.mk.injEq] at H
    obtain ⟨rfl, rfl⟩ := H
    go_enter Try.func31, Try.ntmps31
    go_wp2_with (first | ((with_reducible refine gate_callee (f := 50) rfl ?_); refine goesL_ (some 16) rfl rfl Try.func50 (by kernel_rfl) rfl #[.int .i64 a0, .slice A1 l1.length c1, .slice A2 l2.length c2] rfl qq5 ?_; (with_reducible refine (impl_LoopIs.calls k a0 _ _ l1 _ _ l2 false _ ?side1 ?side2 ?side3 ?side4 A4.out).mono ?_); (case side1 => exact qq15 HR1.out); (case side2 => exact HC1.out); (case side3 => exact qq15 HR2.out); (case side4 => exact HC2.out); rintro e w14 ⟨rfl, hb⟩; refine ⟨_, rfl, ?_⟩; have n0_ := Aside0.mk (below_step qq1 hb); clear HB; have HB := n0_; clear n0_; (try clear hb); (try clear hb2); (try clear hk); (try clear hi)))
    go_ret2
    exact ⟨qq11, qq1⟩

end Go.Proofs.Ytmcfhmflncghiaa.Q
namespace Go.Proofs.Ytmcfhmflncghiaa.Q
open Go.RowKit Go.Proofs.YtmcfhmflncghiaaW.PrintWords Go.Proofs.YtmcfhmflncghiaaW.PrintLast Go.Proofs.YtmcfhmflncghiaaW.PrintMore
attribute [local go_sem] max2_int min2_int max_two min_two max_three min_three max_four min_four
set_option linter.unusedVariables false
set_option linter.unusedSimpArgs false

/-! ### impl_LoopErrors: function 15 -/
def impl_LoopErrors.l0 : Nat → Int → List (S32) → List Int → Int → Int → Option (List Int × Bool)
  | 0, _, _, _, _, _ => none
  | k + 1, x0, x1, x6, x19, x20 => if x20 < x19 then ((impl_LoopOf.f k x0 x1 x20).bind fun bt307 => (if bt307.2 = true then ((impl_LoopError.f k x0 x1 bt307.1).bind fun bt311 => (if x6.length < 17592186044416 then (impl_LoopErrors.l0 k x0 x1 (x6 ++ [bt311.1]) x19 (wrap64 (x20 + 1))) else (none))) else (impl_LoopErrors.l0 k x0 x1 x6 x19 (wrap64 (x20 + 1))))) else (some (x6, true))
def impl_LoopErrors.f (k : Nat) (a0 : Int) (l1 : List (S32)) : Option (List Int × Bool) := (impl_NetWhole.f k a0 l1).bind fun t300 => (if t300 = true then (impl_LoopErrors.l0 k a0 l1 (([] : List Int)) (l1.length : Int) 0) else (some ((([] : List Int)), false)))
set_option maxHeartbeats 8000000 in
set_option maxRecDepth 100000 in
theorem impl_LoopErrors.calls (k : Nat) (a0 : Int) (A1 : Option Addr) (c1 : Nat) (l1 : List (S32)) (r1 : List Int) (r2 : Bool) (w : World) (hr1 : Kd.C k32 w A1 l1.length l1) (hc1 : l1.length ≤ c1) (h : impl_LoopErrors.f k a0 l1 = some (r1, r2)) :
    Calls Try.prog 15 #[.int .i64 a0, .slice A1 l1.length c1] w fun e w' => ∃ v0_ : Value, e = .returned (.tuple #[v0_, .bool r2]) ∧ Kd.R (Kd.int .i64) 3 w' w.heap.size (fun _ => True) v0_ r1 ∧ Below w.heap.size w w' := by
  have HR1 := Aside0.mk hr1
  have HC1 := Aside0.mk hc1
  clear hr1 hc1
  have HB := Aside0.mk (Below.refl w.heap.size w)
  have H : ((impl_NetWhole.f k a0 l1).bind fun t300 => (if t300 = true then (impl_LoopErrors.l0 k a0 l1 (([] : List Int)) (l1.length : Int) 0) else (some ((([] : List Int)), false)))) = some (r1, r2) := h
  clear h
  replace H := Option.bind_eq_some_iff.mp H
  obtain ⟨t300, A30, H⟩ := H
  replace H : (if t300 = true then (impl_LoopErrors.l0 k a0 l1 (([] : List Int)) (l1.length : Int) 0) else (some ((([] : List Int)), false))) = some (r1, r2) := H
  have A3 := Aside0.mk A30
  clear A30
  by_cases c4 : t300 = true
  · subst c4
    have H1 : (impl_LoopErrors.l0 k a0 l1 (([] : List Int)) (l1.length : Int) 0) = some (r1, r2) := by rw [if_pos rfl] at H; exact H
    clear H
    have H := H1
    clear H1
    obtain ⟨y304, hy304⟩ : ∃ y_ : List Int, y_ = (([] : List Int)) := ⟨_, rfl⟩
    replace H : (impl_LoopErrors.l0 k a0 l1 y304 (l1.length : Int) 0) = some (r1, r2) := by first | (rw [hy304]; with_reducible exact H) | (have H2_ := (Option.bind_some _ _).symm.trans H; rw [hy304]; with_reducible exact H2_) | (have H2_ := (Option.bind_some _ _).symm.trans H; with_reducible exact H2_) | with_reducible exact H | (rw [hy304]; exact H) | exact H
    have Ny304 := Aside0.mk hy304
    clear hy304
    have H' := Aside0.mk H
    clear H
    go_enter Try.func15, Try.ntmps15
    go_wp2_with (first | ((with_reducible refine gate_callee (f := 13) rfl ?_); refine goesL_ (some 14) rfl rfl Try.func13 (by kernel_rfl) rfl #[.int .i64 a0, .slice A1 l1.length c1] rfl qq5 ?_; (with_reducible refine (impl_NetWhole.calls k a0 _ _ l1 true _ ?side1 ?side2 A3.out).mono ?_); (case side1 => exact qq15 HR1.out); (case side2 => exact HC1.out); rintro e w5 ⟨rfl, hb⟩; refine ⟨_, rfl, ?_⟩; have n0_ := Aside0.mk (below_step qq1 hb); clear HB; have HB := n0_; clear n0_; (try clear hb); (try clear hb2); (try clear hk); (try clear hi)) | ((with_reducible refine gate_dst (N := 17) rfl ?_); refine Kd.R_lit (Kd.int .i64) _ 3 ?hg (N := 17) ?hd (xs := ([] : List Int)) (inner := []) (ok := fun _ => True) (okp := fun _ => True) ?hr ?hp (fun _ hk => hk) trivial (Below.refl _ _) (Nat.le_refl _) (by simp) ?_; (case hd => rfl); (case hg => rfl); (case hr => exact qq16); (case hp => exact (Reps.none _ _)); intro v305 w6 ho7 hb hg_ hnew_; clear hg_ hnew_; (first | rw [← Ny304.out] at ho7 | (simp only [Int.reduceToNat] at ho7; rw [← Ny304.out] at ho7)); have n0_ := Aside0.mk (Kd.R_lower ho7 (below_size qq1)); have n1_ := Aside0.mk (below_step qq1 hb); clear HB; have HO306 := n0_; have HB := n1_; clear n0_ n1_; clear hb ho7))
    go_loopg [6, 20] k (fun kq v6 v20 w' => ∃ (x6_1 : List Int) (x20_1 : Int), v20 = .int .i64 x20_1 ∧ Aside0 (impl_LoopErrors.l0 kq a0 l1 x6_1 (l1.length : Int) x20_1 = some (r1, r2)) ∧ Aside0 (kq ≤ k) ∧ Aside0 (Kd.R (Kd.int .i64) 3 w' w.heap.size (fun _ => True) v6 x6_1) ∧ Aside0 (Below w.heap.size w w'))
    case atStart => exact ⟨(y304), (0), qq13, H', ⟨Nat.le_refl _⟩, ⟨qq2 HO306.out⟩, ⟨qq1⟩⟩
    case round =>
      clear H'
      try clear c1
      try clear p2
      try clear c4
      obtain ⟨x6_1, x20_1, rfl, HA, HK1, HO_6, HB⟩ := hrel
      cases gk with
      | zero => exact absurd HA.out (by simp [impl_LoopErrors.l0])
      | succ k1 =>
        have H := HA.out
        clear HA
        simp only [impl_LoopErrors.l0] at H
        by_cases c8 : x20_1 < (l1.length : Int)
        · rw [if_pos c8] at H
          have c8b0 : decide (x20_1 < (l1.length : Int)) = true := decide_eq_true c8
          clear c8
          replace H := Option.bind_eq_some_iff.mp H
          obtain ⟨⟨t307, t308⟩, A90, H⟩ := H
          replace H : (if t308 = true then ((impl_LoopError.f k1 a0 l1 t307).bind fun bt311 => (if x6_1.length < 17592186044416 then (impl_LoopErrors.l0 k1 a0 l1 (x6_1 ++ [bt311.1]) (l1.length : Int) (wrap64 (x20_1 + 1))) else (none))) else (impl_LoopErrors.l0 k1 a0 l1 x6_1 (l1.length : Int) (wrap64 (x20_1 + 1)))) = some (r1, r2) := H
          have A9 := Aside0.mk A90
          clear A90
          by_cases c10 : t308 = true
          · subst c10
            have H1 : ((impl_LoopError.f k1 a0 l1 t307).bind fun bt311 => (if x6_1.length < 17592186044416 then (impl_LoopErrors.l0 k1 a0 l1 (x6_1 ++ [bt311.1]) (l1.length : Int) (wrap64 (x20_1 + 1))) else (none))) = some (r1, r2) := by rw [if_pos rfl] at H; exact H
            clear H
            have H := H1
            clear H1
            replace H := Option.bind_eq_some_iff.mp H
            obtain ⟨⟨t311, t312⟩, A110, H⟩ := H
            replace H : (if x6_1.length < 17592186044416 then (impl_LoopErrors.l0 k1 a0 l1 (x6_1 ++ [t311]) (l1.length : Int) (wrap64 (x20_1 + 1))) else (none)) = some (r1, r2) := H
            have A11 := Aside0.mk A110
            clear A110
            by_cases c12 : x6_1.length < 17592186044416
            · rw [if_pos c12] at H
              have LMc12 := Aside0.mk c12
              clear c12
              obtain ⟨y313, hy313⟩ : ∃ y_ : List Int, y_ = (x6_1 ++ [t311]) := ⟨_, rfl⟩
              replace H : (impl_LoopErrors.l0 k1 a0 l1 y313 (l1.length : Int) (wrap64 (x20_1 + 1))) = some (r1, r2) := by first | (rw [hy313]; with_reducible exact H) | (have H2_ := (Option.bind_some _ _).symm.trans H; rw [hy313]; with_reducible exact H2_) | (have H2_ := (Option.bind_some _ _).symm.trans H; with_reducible exact H2_) | with_reducible exact H | (rw [hy313]; exact H) | exact H
              have Ny313 := Aside0.mk hy313
              clear hy313
              have H' := Aside0.mk H
              clear H
              go_wp2_with (first | ((with_reducible refine gate_callee (f := 30) rfl ?_); refine goesL_ (some 27) rfl rfl Try.func30 (by kernel_rfl) rfl #[.int .i64 a0, .slice A1 l1.length c1, .int .i64 x20_1] rfl qq5 ?_; (with_reducible refine (impl_LoopOf.calls k1 a0 _ _ l1 x20_1 t307 true _ ?side1 ?side2 A9.out).mono ?_); (case side1 => exact qq35); (case side2 => exact HC1.out); rintro e w13 ⟨v309, rfl, ho0, hb⟩; refine ⟨_, rfl, ?_⟩; have n0_ := Aside0.mk (Kd.R_elder' (qq2 HO_6.out) (Kd.R_base ho0) hb); have n1_ := Aside0.mk (Kd.R_lower (Kd.R_new' ho0 (Kd.R_lt (qq2 HO_6.out))) (below_size qq1)); have n2_ := Aside0.mk (below_step qq1 hb); clear HO_6; clear HB; have HO_6 := n0_; have HO310 := n1_; have HB := n2_; clear n0_ n1_ n2_; (try clear hb); (try clear hb2); (try clear hk); (try clear hi); (try clear ho0); obtain ⟨Ao14, co14, eo14⟩ := Kd.R_slice HO310.out; subst eo14) | ((with_reducible refine gate_callee (f := 31) rfl ?_); refine goesL_ (some 36) rfl rfl Try.func31 (by kernel_rfl) rfl #[.int .i64 a0, .slice A1 l1.length c1, .slice Ao14 t307.length co14] rfl qq5 ?_; (with_reducible refine (impl_LoopError.calls k1 a0 _ _ l1 _ _ t307 t311 t312 _ ?side1 ?side2 ?side3 ?side4 A11.out).mono ?_); (case side1 => exact qq35); (case side2 => exact HC1.out); (case side3 => exact qq12 HO310.out); (case side4 => exact qq50 HO310.out); rintro e w15 ⟨rfl, hb⟩; refine ⟨_, rfl, ?_⟩; have n0_ := Aside0.mk (Kd.R_below (qq2 HO_6.out) hb); have n1_ := Aside0.mk (Kd.R_below (qq2 HO310.out) hb); have n2_ := Aside0.mk (below_step qq1 hb); clear HO_6; clear HO310; clear HB; have HO_6 := n0_; have HO310 := n1_; have HB := n2_; clear n0_ n1_ n2_; (try clear hb); (try clear hb2); (try clear hk); (try clear hi)) | ((with_reducible refine gate_builtin (b := .append) (xs := #[.tmp 39, .tmp 41]) rfl ?_); at_builtin; refine Kd.R_append (Kd.int .i64) (w0 := w) w.heap.size rfl (.tmp 39) (.tmp 41) 27 3 (.int .i64 0) 8 rfl Try.underlying27 info3 rfl (by decide) (by omega) u6 x6_1 t311 [.int .i64 t311] (fun k_ => some k_ ≠ (.slice Ao14 t307.length co14 : Value).ownBlock) (fun _ => False) rfl rfl ?aP (fun _ hk => hk.elim) ?aF ?aO ?aB ?aS ?aL ?_; (case aP => exact rfl); (case aB => exact qq1); (case aF => exact qq57 HO310.out); (case aO => exact (qq21 HO_6.out)); (case aS => exact (below_size qq1)); (case aL => have := LMc12.out; omega); intro v314 w16 ho hb hg hat; rw [← Ny313.out] at ho; have n0_ := Aside0.mk (Kd.R_after (ok := (fun _ => True)) (qq2 HO310.out) hg hat); have n1_ := Aside0.mk (hb); have n2_ := Aside0.mk (ho); clear HO310; clear HB; clear HO_6; have HO310 := n0_; have HB := n1_; have HO315 := n2_; clear n0_ n1_ n2_; clear ho hb hg hat))
              go_roundg k1
              case measure => have := HK1.out; omega
              case rel => exact ⟨(y313), (wrap64 (x20_1 + 1)), qq13, H', ⟨by have := HK1.out; omega⟩, ⟨qq17 HO315.out⟩, ⟨qq1⟩⟩
            · rw [if_neg c12] at H
              exact absurd H (by simp)
          · replace c10 := Bool.eq_false_iff.mpr c10
            subst c10
            have H1 : (impl_LoopErrors.l0 k1 a0 l1 x6_1 (l1.length : Int) (wrap64 (x20_1 + 1))) = some (r1, r2) := by rw [if_neg (show ¬ (false = true) by decide)] at H; exact H
            clear H
            have H := H1
            clear H1
            have H' := Aside0.mk H
            clear H
            go_wp2_with (first | ((with_reducible refine gate_callee (f := 30) rfl ?_); refine goesL_ (some 27) rfl rfl Try.func30 (by kernel_rfl) rfl #[.int .i64 a0, .slice A1 l1.length c1, .int .i64 x20_1] rfl qq5 ?_; (with_reducible refine (impl_LoopOf.calls k1 a0 _ _ l1 x20_1 t307 false _ ?side1 ?side2 A9.out).mono ?_); (case side1 => exact qq35); (case side2 => exact HC1.out); rintro e w17 ⟨v309, rfl, ho0, hb⟩; refine ⟨_, rfl, ?_⟩; have n0_ := Aside0.mk (Kd.R_elder' (qq2 HO_6.out) (Kd.R_base ho0) hb); have n1_ := Aside0.mk (Kd.R_lower (Kd.R_new' ho0 (Kd.R_lt (qq2 HO_6.out))) (below_size qq1)); have n2_ := Aside0.mk (below_step qq1 hb); clear HO_6; clear HB; have HO_6 := n0_; have HO310 := n1_; have HB := n2_; clear n0_ n1_ n2_; (try clear hb); (try clear hb2); (try clear hk); (try clear hi); (try clear ho0)))
            go_roundg k1
            case measure => have := HK1.out; omega
            case rel => exact ⟨(x6_1), (wrap64 (x20_1 + 1)), qq13, H', ⟨by have := HK1.out; omega⟩, ⟨qq17 HO_6.out⟩, ⟨qq1⟩⟩
        · rw [if_neg c8] at H
          have c8b0 : decide (x20_1 < (l1.length : Int)) = false := decide_eq_false c8
          clear c8
          simp only [Option.some.injEq, Prod.mk.injEq] at H
          obtain ⟨rfl, rfl⟩ := H
          go_wp2
          go_ret2
          exact ⟨_, qq11, qq2 HO_6.out, qq1⟩
  · replace c4 := Bool.eq_false_iff.mpr c4
    subst c4
    have H1 : (some ((([] : List Int)), false)) = some (r1, r2) := by rw [if_neg (show ¬ (false = true) by decide)] at H; exact H
    clear H
    have H := H1
    clear H1
    obtain ⟨y301, hy301⟩ : ∃ y_ : List Int, y_ = (([] : List Int)) := ⟨_, rfl⟩
    replace H : (some (y301, false)) = some (r1, r2) := by first | (rw [hy301]; with_reducible exact H) | (have H2_ := (Option.bind_some _ _).symm.trans H; rw [hy301]; with_reducible exact H2_) | (have H2_ := (Option.bind_some _ _).symm.trans H; with_reducible exact H2_) | with_reducible exact H | (rw [hy301]; exact H) | exact H
    have Ny301 := Aside0.mk hy301
    clear hy301
    simp only [Option.some.injEq, Prod.mk.injEq] at H
    obtain ⟨rfl, rfl⟩ := H
    go_enter Try.func15, Try.ntmps15
    go_wp2_with (first | ((with_reducible refine gate_callee (f := 13) rfl ?_); refine goesL_ (some 14) rfl rfl Try.func13 (by kernel_rfl) rfl #[.int .i64 a0, .slice A1 l1.length c1] rfl qq5 ?_; (with_reducible refine (impl_NetWhole.calls k a0 _ _ l1 false _ ?side1 ?side2 A3.out).mono ?_); (case side1 => exact qq15 HR1.out); (case side2 => exact HC1.out); rintro e w18 ⟨rfl, hb⟩; refine ⟨_, rfl, ?_⟩; have n0_ := Aside0.mk (below_step qq1 hb); clear HB; have HB := n0_; clear n0_; (try clear hb); (try clear hb2); (try clear hk); (try clear hi)) | ((with_reducible refine gate_dst (N := 16) rfl ?_); refine Kd.R_lit (Kd.int .i64) _ 3 ?hg (N := 16) ?hd (xs := ([] : List Int)) (inner := []) (ok := fun _ => True) (okp := fun _ => True) ?hr ?hp (fun _ hk => hk) trivial (Below.refl _ _) (Nat.le_refl _) (by simp) ?_; (case hd => rfl); (case hg => rfl); (case hr => exact qq16); (case hp => exact (Reps.none _ _)); intro v302 w19 ho20 hb hg_ hnew_; clear hg_ hnew_; (first | rw [← Ny301.out] at ho20 | (simp only [Int.reduceToNat] at ho20; rw [← Ny301.out] at ho20)); have n0_ := Aside0.mk (Kd.R_lower ho20 (below_size qq1)); have n1_ := Aside0.mk (below_step qq1 hb); clear HB; have HO303 := n0_; have HB := n1_; clear n0_ n1_; clear hb ho20))
    go_ret2
    exact ⟨_, qq11, qq2 HO303.out, qq1⟩

end Go.Proofs.Ytmcfhmflncghiaa.Q
namespace Go.Proofs.Ytmcfhmflncghiaa.Q
open Go.RowKit Go.Proofs.YtmcfhmflncghiaaW.PrintWords Go.Proofs.YtmcfhmflncghiaaW.PrintLast Go.Proofs.YtmcfhmflncghiaaW.PrintMore
attribute [local go_sem] max2_int min2_int max_two min_two max_three min_three max_four min_four
set_option linter.unusedVariables false
set_option linter.unusedSimpArgs false

/-! ### impl_LoopCloses: function 8 -/
def impl_LoopCloses.l0 : Nat → List Int → Int → Int → Option (Bool)
  | 0, _, _, _ => none
  | k + 1, x17, x18, x19 => if x19 < x18 then (if 0 ≤ x19 then (if x19 < (x17.length : Int) then (if (rd x17 x19) = 0 then (impl_LoopCloses.l0 k x17 x18 (wrap64 (x19 + 1))) else (some false)) else (none)) else (none)) else (some true)
def impl_LoopCloses.f (k : Nat) (a0 : Int) (l1 : List (S32)) : Option (Bool) := (impl_LoopErrors.f k a0 l1).bind fun bt316 => (if bt316.2 = true then (impl_LoopCloses.l0 k bt316.1 (bt316.1.length : Int) 0) else (some false))
set_option maxHeartbeats 8000000 in
set_option maxRecDepth 100000 in
theorem impl_LoopCloses.calls (k : Nat) (a0 : Int) (A1 : Option Addr) (c1 : Nat) (l1 : List (S32)) (r : Bool) (w : World) (hr1 : Kd.C k32 w A1 l1.length l1) (hc1 : l1.length ≤ c1) (h : impl_LoopCloses.f k a0 l1 = some r) :
    Calls Try.prog 8 #[.int .i64 a0, .slice A1 l1.length c1] w fun e w' => e = .returned (.bool r) ∧ Below w.heap.size w w' := by
  have HR1 := Aside0.mk hr1
  have HC1 := Aside0.mk hc1
  clear hr1 hc1
  have HB := Aside0.mk (Below.refl w.heap.size w)
  have H : ((impl_LoopErrors.f k a0 l1).bind fun bt316 => (if bt316.2 = true then (impl_LoopCloses.l0 k bt316.1 (bt316.1.length : Int) 0) else (some false))) = some r := h
  clear h
  replace H := Option.bind_eq_some_iff.mp H
  obtain ⟨⟨t316, t317⟩, A30, H⟩ := H
  replace H : (if t317 = true then (impl_LoopCloses.l0 k t316 (t316.length : Int) 0) else (some false)) = some r := H
  have A3 := Aside0.mk A30
  clear A30
  by_cases c4 : t317 = true
  · subst c4
    have H1 : (impl_LoopCloses.l0 k t316 (t316.length : Int) 0) = some r := by rw [if_pos rfl] at H; exact H
    clear H
    have H := H1
    clear H1
    have H' := Aside0.mk H
    clear H
    go_enter Try.func8, Try.ntmps8
    go_wp2_with (first | ((with_reducible refine gate_callee (f := 15) rfl ?_); refine goesL_ (some 12) rfl rfl Try.func15 (by kernel_rfl) rfl #[.int .i64 a0, .slice A1 l1.length c1] rfl qq5 ?_; (with_reducible refine (impl_LoopErrors.calls k a0 _ _ l1 t316 true _ ?side1 ?side2 A3.out).mono ?_); (case side1 => exact qq15 HR1.out); (case side2 => exact HC1.out); rintro e w5 ⟨v318, rfl, ho0, hb⟩; refine ⟨_, rfl, ?_⟩; have n0_ := Aside0.mk (Kd.R_lower ho0 (below_size qq1)); have n1_ := Aside0.mk (below_step qq1 hb); clear HB; have HO319 := n0_; have HB := n1_; clear n0_ n1_; (try clear hb); (try clear hb2); (try clear hk); (try clear hi); (try clear ho0); obtain ⟨Ao6, co6, eo6⟩ := Kd.R_slice HO319.out; subst eo6))
    go_loopg [19] k (fun kq v19 w' => ∃ (x19_1 : Int), v19 = .int .i64 x19_1 ∧ Aside0 (impl_LoopCloses.l0 kq t316 (t316.length : Int) x19_1 = some r) ∧ Aside0 (kq ≤ k) ∧ Aside0 (Kd.R (Kd.int .i64) 3 w' w.heap.size (fun _ => True) (.slice Ao6 t316.length co6) t316) ∧ Aside0 (Below w.heap.size w w'))
    case atStart => exact ⟨(0), qq13, H', ⟨Nat.le_refl _⟩, ⟨qq2 HO319.out⟩, ⟨qq1⟩⟩
    case round =>
      clear H'
      try clear c1
      try clear p2
      try clear c4
      obtain ⟨x19_1, rfl, HA, HK1, HO_17, HB⟩ := hrel
      cases gk with
      | zero => exact absurd HA.out (by simp [impl_LoopCloses.l0])
      | succ k1 =>
        have H := HA.out
        clear HA
        simp only [impl_LoopCloses.l0] at H
        by_cases c7 : x19_1 < (t316.length : Int)
        · rw [if_pos c7] at H
          have c7b0 : decide (x19_1 < (t316.length : Int)) = true := decide_eq_true c7
          clear c7
          by_cases c8 : 0 ≤ x19_1
          · rw [if_pos c8] at H
            have c8b0 : decide (0 ≤ x19_1) = true := decide_eq_true c8
            clear c8
            by_cases c9 : x19_1 < (t316.length : Int)
            · rw [if_pos c9] at H
              have c9b0 : decide (x19_1 < (t316.length : Int)) = true := decide_eq_true c9
              clear c9
              by_cases c10 : (rd t316 x19_1) = 0
              · rw [if_pos c10] at H
                have c10b0 : ((rd t316 x19_1) == 0) = true := beq_iff_eq.mpr c10
                have c10b1 : ((rd t316 x19_1) != 0) = false := bne_eq_false_iff_eq.mpr c10
                clear c10
                have H' := Aside0.mk H
                clear H
                have p320 : 0 ≤ (x19_1 : Int) := of_decide_eq_true qq3
                have q320 : x19_1 < (t316.length : Int) := of_decide_eq_true qq3
                obtain ⟨ad320, e320, hx320_0⟩ := Kd.at_int (Kd.R_reads' HO_17.out).2.2 x19_1 p320 q320
                cases e320
                replace p320 := eq_true p320
                replace q320 := eq_true q320
                go_wp2
                go_roundg k1
                case measure => have := HK1.out; omega
                case rel => exact ⟨(wrap64 (x19_1 + 1)), qq13, H', ⟨by have := HK1.out; omega⟩, ⟨qq2 HO_17.out⟩, ⟨qq1⟩⟩
              · rw [if_neg c10] at H
                have c10b0 : ((rd t316 x19_1) == 0) = false := beq_eq_false_iff_ne.mpr c10
                have c10b1 : ((rd t316 x19_1) != 0) = true := bne_iff_ne.mpr c10
                obtain rfl := Option.some.inj H
                have p320 : 0 ≤ (x19_1 : Int) := of_decide_eq_true qq3
                have q320 : x19_1 < (t316.length : Int) := of_decide_eq_true qq3
                obtain ⟨ad320, e320, hx320_0⟩ := Kd.at_int (Kd.R_reads' HO_17.out).2.2 x19_1 p320 q320
                cases e320
                replace p320 := eq_true p320
                replace q320 := eq_true q320
                go_wp2
                go_ret
                exact ⟨qq11, qq1⟩
            · rw [if_neg c9] at H
              exact absurd H (by simp)
          · rw [if_neg c8] at H
            exact absurd H (by simp)
        · rw [if_neg c7] at H
          have c7b0 : decide (x19_1 < (t316.length : Int)) = false := decide_eq_false c7
          clear c7
          obtain rfl := Option.some.inj H
          go_wp2
          go_ret
          exact ⟨qq11, qq1⟩
  · replace c4 := Bool.eq_false_iff.mpr c4
    subst c4
    have H1 : (some false) = some r := by rw [if_neg (show ¬ (false = true) by decide)] at H; exact H
    clear H
    have H := H1
    clear H1
    obtain rfl := Option.some.inj H
    go_enter Try.func8, Try.ntmps8
    go_wp2_with (first | ((with_reducible refine gate_callee (f := 15) rfl ?_); refine goesL_ (some 12) rfl rfl Try.func15 (by kernel_rfl) rfl #[.int .i64 a0, .slice A1 l1.length c1] rfl qq5 ?_; (with_reducible refine (impl_LoopErrors.calls k a0 _ _ l1 t316 false _ ?side1 ?side2 A3.out).mono ?_); (case side1 => exact qq15 HR1.out); (case side2 => exact HC1.out); rintro e w11 ⟨v318, rfl, ho0, hb⟩; refine ⟨_, rfl, ?_⟩; have n0_ := Aside0.mk (Kd.R_lower ho0 (below_size qq1)); have n1_ := Aside0.mk (below_step qq1 hb); clear HB; have HO319 := n0_; have HB := n1_; clear n0_ n1_; (try clear hb); (try clear hb2); (try clear hk); (try clear hi); (try clear ho0)))
    go_ret
    exact ⟨qq11, qq1⟩

end Go.Proofs.Ytmcfhmflncghiaa.Q
namespace Go.Proofs.Ytmcfhmflncghiaa.Q
open Go.RowKit Go.Proofs.YtmcfhmflncghiaaW.PrintWords Go.Proofs.YtmcfhmflncghiaaW.PrintLast Go.Proofs.YtmcfhmflncghiaaW.PrintMore
attribute [local go_sem] max2_int min2_int max_two min_two max_three min_three max_four min_four
set_option linter.unusedVariables false
set_option linter.unusedSimpArgs false

/-! ### spec_l12Some: function 66 -/
def spec_l12Some.l0 : Nat → List (S32) → List Int → List (S32) → Int → Option ((List (S32)))
  | 0, _, _, _, _ => none
  | k + 1, x0, x1, x5, x6 => if x6 < (x1.length : Int) then (if 0 ≤ x6 then (if 0 ≤ (rd x1 x6) then (if (rd x1 x6) < (x0.length : Int) then (if x5.length < 4398046511104 then (spec_l12Some.l0 k x0 x1 (x5 ++ [(⟨(rd_T32 x0 (rd x1 x6)).f0, (rd_T32 x0 (rd x1 x6)).f1, (rd_T32 x0 (rd x1 x6)).f2, (rd_T32 x0 (rd x1 x6)).f3⟩ : S32)]) (wrap64 (x6 + 1))) else (none)) else (none)) else (none)) else (none)) else (some x5)
def spec_l12Some.f (k : Nat) (l0 : List (S32)) (l1 : List Int) : Option ((List (S32))) := spec_l12Some.l0 k l0 l1 (([] : List (S32))) 0
set_option maxHeartbeats 8000000 in
set_option maxRecDepth 100000 in
theorem spec_l12Some.calls (k : Nat) (A0 : Option Addr) (c0 : Nat) (l0 : List (S32)) (A1 : Option Addr) (c1 : Nat) (l1 : List Int) (r : List (S32)) (w : World) (hr0 : Kd.C k32 w A0 l0.length l0) (hc0 : l0.length ≤ c0) (hr1 : Kd.C (Kd.int .i64) w A1 l1.length l1) (hc1 : l1.length ≤ c1) (h : spec_l12Some.f k l0 l1 = some r) :
    Calls Try.prog 66 #[.slice A0 l0.length c0, .slice A1 l1.length c1] w fun e w' => ∃ v0_ : Value, e = .returned (v0_) ∧ Kd.R k32 32 w' w.heap.size (fun _ => True) v0_ r ∧ Below w.heap.size w w' := by
  have hu32 := Try.underlying32
  have HR0 := Aside0.mk hr0
  have HC0 := Aside0.mk hc0
  clear hr0 hc0
  have HR1 := Aside0.mk hr1
  have HC1 := Aside0.mk hc1
  clear hr1 hc1
  have HB := Aside0.mk (Below.refl w.heap.size w)
  have H : (spec_l12Some.l0 k l0 l1 (([] : List (S32))) 0) = some r := h
  clear h
  obtain ⟨y346, hy346⟩ : ∃ y_ : List (S32), y_ = (([] : List (S32))) := ⟨_, rfl⟩
  replace H : (spec_l12Some.l0 k l0 l1 y346 0) = some r := by first | (rw [hy346]; with_reducible exact H) | (have H2_ := (Option.bind_some _ _).symm.trans H; rw [hy346]; with_reducible exact H2_) | (have H2_ := (Option.bind_some _ _).symm.trans H; with_reducible exact H2_) | with_reducible exact H | (rw [hy346]; exact H) | exact H
  have Ny346 := Aside0.mk hy346
  clear hy346
  have H' := Aside0.mk H
  clear H
  go_enter Try.func66, Try.ntmps66
  go_wp2_with (first | ((with_reducible refine gate_dst (N := 7) rfl ?_); refine Kd.R_lit k32 _ 32 ?hg (N := 7) ?hd (xs := ([] : List (S32))) (inner := []) (ok := fun _ => True) (okp := fun _ => True) ?hr ?hp (fun _ hk => hk) trivial (Below.refl _ _) (Nat.le_refl _) (by simp) ?_; (case hd => rfl); (case hg => rfl); (case hr => exact qq16); (case hp => exact (Reps.none _ _)); intro v347 w3 ho4 hb hg_ hnew_; clear hg_ hnew_; (first | rw [← Ny346.out] at ho4 | (simp only [Int.reduceToNat] at ho4; rw [← Ny346.out] at ho4)); have n0_ := Aside0.mk (Kd.R_lower ho4 (below_size qq1)); have n1_ := Aside0.mk (below_step qq1 hb); clear HB; have HO348 := n0_; have HB := n1_; clear n0_ n1_; clear hb ho4))
  go_loopg [5, 6] k (fun kq v5 v6 w' => ∃ (x5_1 : List (S32)) (x6_1 : Int), v6 = .int .i64 x6_1 ∧ Aside0 (spec_l12Some.l0 kq l0 l1 x5_1 x6_1 = some r) ∧ Aside0 (kq ≤ k) ∧ Aside0 (Kd.R k32 32 w' w.heap.size (fun _ => True) v5 x5_1) ∧ Aside0 (Below w.heap.size w w'))
  case atStart => exact ⟨(y346), (0), qq13, H', ⟨Nat.le_refl _⟩, ⟨qq2 HO348.out⟩, ⟨qq1⟩⟩
  case round =>
    clear H'
    try clear c1
    try clear p2
    obtain ⟨x5_1, x6_1, rfl, HA, HK1, HO_5, HB⟩ := hrel
    cases gk with
    | zero => exact absurd HA.out (by simp [spec_l12Some.l0])
    | succ k1 =>
      have H := HA.out
      clear HA
      simp only [spec_l12Some.l0] at H
      by_cases c5 : x6_1 < (l1.length : Int)
      · rw [if_pos c5] at H
        have c5b0 : decide (x6_1 < (l1.length : Int)) = true := decide_eq_true c5
        clear c5
        by_cases c6 : 0 ≤ x6_1
        · rw [if_pos c6] at H
          have c6b0 : decide (0 ≤ x6_1) = true := decide_eq_true c6
          clear c6
          by_cases c7 : 0 ≤ (rd l1 x6_1)
          · rw [if_pos c7] at H
            have c7b0 : decide (0 ≤ (rd l1 x6_1)) = true := decide_eq_true c7
            clear c7
            by_cases c8 : (rd l1 x6_1) < (l0.length : Int)
            · rw [if_pos c8] at H
              have c8b0 : decide ((rd l1 x6_1) < (l0.length : Int)) = true := decide_eq_true c8
              clear c8
              by_cases c9 : x5_1.length < 4398046511104
              · rw [if_pos c9] at H
                have LMc9 := Aside0.mk c9
                clear c9
                obtain ⟨y351, hy351⟩ : ∃ y_ : List (S32), y_ = (x5_1 ++ [(⟨(rd_T32 l0 (rd l1 x6_1)).f0, (rd_T32 l0 (rd l1 x6_1)).f1, (rd_T32 l0 (rd l1 x6_1)).f2, (rd_T32 l0 (rd l1 x6_1)).f3⟩ : S32)]) := ⟨_, rfl⟩
                replace H : (spec_l12Some.l0 k1 l0 l1 y351 (wrap64 (x6_1 + 1))) = some r := by first | (rw [hy351]; with_reducible exact H) | (have H2_ := (Option.bind_some _ _).symm.trans H; rw [hy351]; with_reducible exact H2_) | (have H2_ := (Option.bind_some _ _).symm.trans H; with_reducible exact H2_) | with_reducible exact H | (rw [hy351]; exact H) | exact H
                have Ny351 := Aside0.mk hy351
                clear hy351
                have H' := Aside0.mk H
                clear H
                have p349 : 0 ≤ (x6_1 : Int) := of_decide_eq_true qq3
                have q349 : x6_1 < (l1.length : Int) := of_decide_eq_true qq3
                obtain ⟨ad349, e349, hx349_0⟩ := Kd.at_int HR1.out x6_1 p349 q349
                cases e349
                replace hx349_0 := (HB.out.cell (World.block_lt_of_cell? w _ hx349_0)).trans hx349_0
                replace p349 := eq_true p349
                replace q349 := eq_true q349
                have p350 : 0 ≤ ((rd l1 x6_1) : Int) := of_decide_eq_true qq3
                have q350 : (rd l1 x6_1) < (l0.length : Int) := of_decide_eq_true qq3
                obtain ⟨ad350, e350, hx350_0, hx350_1, hx350_2, hx350_3⟩ := at_T32 HR0.out (rd l1 x6_1) p350 q350
                cases e350
                replace hx350_0 := (HB.out.cell (World.block_lt_of_cell? w _ hx350_0)).trans hx350_0
                replace hx350_1 := (HB.out.cell (World.block_lt_of_cell? w _ hx350_1)).trans hx350_1
                replace hx350_2 := (HB.out.cell (World.block_lt_of_cell? w _ hx350_2)).trans hx350_2
                replace hx350_3 := (HB.out.cell (World.block_lt_of_cell? w _ hx350_3)).trans hx350_3
                replace p350 := eq_true p350
                replace q350 := eq_true q350
                go_wp2_with (first | ((with_reducible refine gate_builtin (b := .append) (xs := #[.tmp 14, .tmp 22]) rfl ?_); at_builtin; refine Kd.R_append k32 (w0 := w) w.heap.size rfl (.tmp 14) (.tmp 22) 23 32 (.agg #[(.int .i64 0), (.int .i64 0), (.int .i64 0), (.int .i64 0)]) 32 rfl Try.underlying23 info32 rfl (by decide) (by omega) u5 x5_1 (⟨(rd_T32 l0 (rd l1 x6_1)).f0, (rd_T32 l0 (rd l1 x6_1)).f1, (rd_T32 l0 (rd l1 x6_1)).f2, (rd_T32 l0 (rd l1 x6_1)).f3⟩ : S32) [.int .i64 ((rd_T32 l0 (rd l1 x6_1)).f0), .int .i64 ((rd_T32 l0 (rd l1 x6_1)).f1), .int .i64 ((rd_T32 l0 (rd l1 x6_1)).f2), .int .i64 ((rd_T32 l0 (rd l1 x6_1)).f3)] (fun _ => True) (fun _ => False) rfl rfl ?aP (fun _ hk => hk.elim) ?aF ?aO ?aB ?aS ?aL ?_; (case aP => exact k32_mkM _ _ _ (⟨(rd_T32 l0 (rd l1 x6_1)).f0, (rd_T32 l0 (rd l1 x6_1)).f1, (rd_T32 l0 (rd l1 x6_1)).f2, (rd_T32 l0 (rd l1 x6_1)).f3⟩ : S32)); (case aB => exact qq1); (case aF => exact qq75); (case aO => exact (qq2 HO_5.out)); (case aS => exact (below_size qq1)); (case aL => have := LMc9.out; omega); intro v352 w10 ho hb hg hat; rw [← Ny351.out] at ho; have n0_ := Aside0.mk (hb); have n1_ := Aside0.mk (ho); clear HB; clear HO_5; have HB := n0_; have HO353 := n1_; clear n0_ n1_; clear ho hb hg hat))
                go_roundg k1
                case measure => have := HK1.out; omega
                case rel => exact ⟨(y351), (wrap64 (x6_1 + 1)), qq13, H', ⟨by have := HK1.out; omega⟩, ⟨qq2 HO353.out⟩, ⟨qq1⟩⟩
              · rw [if_neg c9] at H
                exact absurd H (by simp)
            · rw [if_neg c8] at H
              exact absurd H (by simp)
          · rw [if_neg c7] at H
            exact absurd H (by simp)
        · rw [if_neg c6] at H
          exact absurd H (by simp)
      · rw [if_neg c5] at H
        have c5b0 : decide (x6_1 < (l1.length : Int)) = false := decide_eq_false c5
        clear c5
        obtain rfl := Option.some.inj H
        go_wp2
        go_ret
        exact ⟨_, qq11, qq2 HO_5.out, qq1⟩

/-! ### spec_l13Has: function 54 -/
def spec_l13Has.l0 : Nat → List Int → Int → Int → Option (Bool)
  | 0, _, _, _ => none
  | k + 1, x0, x1, x5 => if x5 < (x0.length : Int) then (if 0 ≤ x5 then (if (rd x0 x5) = x1 then (some true) else (spec_l13Has.l0 k x0 x1 (wrap64 (x5 + 1)))) else (none)) else (some false)
def spec_l13Has.f (k : Nat) (l0 : List Int) (a1 : Int) : Option (Bool) := spec_l13Has.l0 k l0 a1 0
set_option maxHeartbeats 8000000 in
set_option maxRecDepth 100000 in
theorem spec_l13Has.calls (k : Nat) (A0 : Option Addr) (c0 : Nat) (l0 : List Int) (a1 : Int) (r : Bool) (w : World) (hr0 : Kd.C (Kd.int .i64) w A0 l0.length l0) (hc0 : l0.length ≤ c0) (h : spec_l13Has.f k l0 a1 = some r) :
    Calls Try.prog 54 #[.slice A0 l0.length c0, .int .i64 a1] w fun e w' => e = .returned (.bool r) ∧ Drawn0 w w' := by
  have HR0 := Aside0.mk hr0
  have HC0 := Aside0.mk hc0
  clear hr0 hc0
  have H : (spec_l13Has.l0 k l0 a1 0) = some r := h
  clear h
  have H' := Aside0.mk H
  clear H
  go_enter Try.func54, Try.ntmps54
  go_wp2
  go_loopg [5] k (fun kq v5 w' => ∃ (x5_1 : Int), v5 = .int .i64 x5_1 ∧ Aside0 (spec_l13Has.l0 kq l0 a1 x5_1 = some r) ∧ Aside0 (kq ≤ k) ∧ Drawn0 w w')
  case atStart => exact ⟨(0), qq13, H', ⟨Nat.le_refl _⟩, qq24⟩
  case round =>
    clear H'
    try clear p2
    obtain ⟨x5_1, rfl, HA, HK1, ⟨m1, rfl⟩⟩ := hrel
    cases gk with
    | zero => exact absurd HA.out (by simp [spec_l13Has.l0])
    | succ k1 =>
      have H := HA.out
      clear HA
      simp only [spec_l13Has.l0] at H
      by_cases c3 : x5_1 < (l0.length : Int)
      · rw [if_pos c3] at H
        have c3b0 : decide (x5_1 < (l0.length : Int)) = true := decide_eq_true c3
        clear c3
        by_cases c4 : 0 ≤ x5_1
        · rw [if_pos c4] at H
          have c4b0 : decide (0 ≤ x5_1) = true := decide_eq_true c4
          clear c4
          by_cases c5 : (rd l0 x5_1) = a1
          · rw [if_pos c5] at H
            have c5b0 : ((rd l0 x5_1) == a1) = true := beq_iff_eq.mpr c5
            have c5b1 : ((rd l0 x5_1) != a1) = false := bne_eq_false_iff_eq.mpr c5
            clear c5
            obtain rfl := Option.some.inj H
            have p371 : 0 ≤ (x5_1 : Int) := of_decide_eq_true qq3
            have q371 : x5_1 < (l0.length : Int) := of_decide_eq_true qq3
            obtain ⟨ad371, e371, hx371_0⟩ := Kd.at_int HR0.out x5_1 p371 q371
            cases e371
            replace p371 := eq_true p371
            replace q371 := eq_true q371
            go_wp2
            go_ret
            exact ⟨qq13, qq24⟩
          · rw [if_neg c5] at H
            have c5b0 : ((rd l0 x5_1) == a1) = false := beq_eq_false_iff_ne.mpr c5
            have c5b1 : ((rd l0 x5_1) != a1) = true := bne_iff_ne.mpr c5
            have H' := Aside0.mk H
            clear H
            have p371 : 0 ≤ (x5_1 : Int) := of_decide_eq_true qq3
            have q371 : x5_1 < (l0.length : Int) := of_decide_eq_true qq3
            obtain ⟨ad371, e371, hx371_0⟩ := Kd.at_int HR0.out x5_1 p371 q371
            cases e371
            replace p371 := eq_true p371
            replace q371 := eq_true q371
            go_wp2
            go_roundg k1
            case measure => have := HK1.out; omega
            case rel => exact ⟨(wrap64 (x5_1 + 1)), qq13, H', ⟨by have := HK1.out; omega⟩, qq24⟩
        · rw [if_neg c4] at H
          exact absurd H (by simp)
      · rw [if_neg c3] at H
        have c3b0 : decide (x5_1 < (l0.length : Int)) = false := decide_eq_false c3
        clear c3
        obtain rfl := Option.some.inj H
        go_wp2
        go_ret
        exact ⟨qq13, qq24⟩

/-! ### spec_l13Error: function 34 -/
def spec_l13Error.l0 : Nat → List (S32) → List Int → Int → Int → Option (Int)
  | 0, _, _, _, _ => none
  | k + 1, x0, x1, x5, x6 => if x6 < (x1.length : Int) then (if 0 ≤ x6 then (if (rd x1 x6) > 0 then (if 0 ≤ (wrap64 ((rd x1 x6) - 1)) then (if (wrap64 ((rd x1 x6) - 1)) < (x0.length : Int) then (spec_l13Error.l0 k x0 x1 (wrap64 (x5 + ((rd_T32 x0 (wrap64 ((rd x1 x6) - 1))).f2))) (wrap64 (x6 + 1))) else (none)) else (none)) else (if 0 ≤ (wrap64 ((wrap64 (-(rd x1 x6))) - 1)) then (if (wrap64 ((wrap64 (-(rd x1 x6))) - 1)) < (x0.length : Int) then (spec_l13Error.l0 k x0 x1 (wrap64 (x5 - ((rd_T32 x0 (wrap64 ((wrap64 (-(rd x1 x6))) - 1))).f2))) (wrap64 (x6 + 1))) else (none)) else (none))) else (none)) else (some x5)
def spec_l13Error.f (k : Nat) (l0 : List (S32)) (l1 : List Int) : Option (Int) := spec_l13Error.l0 k l0 l1 0 0
set_option maxHeartbeats 8000000 in
set_option maxRecDepth 100000 in
theorem spec_l13Error.calls (k : Nat) (A0 : Option Addr) (c0 : Nat) (l0 : List (S32)) (A1 : Option Addr) (c1 : Nat) (l1 : List Int) (r : Int) (w : World) (hr0 : Kd.C k32 w A0 l0.length l0) (hc0 : l0.length ≤ c0) (hr1 : Kd.C (Kd.int .i64) w A1 l1.length l1) (hc1 : l1.length ≤ c1) (h : spec_l13Error.f k l0 l1 = some r) :
    Calls Try.prog 34 #[.slice A0 l0.length c0, .slice A1 l1.length c1] w fun e w' => e = .returned (.int .i64 r) ∧ Drawn0 w w' := by
  have HR0 := Aside0.mk hr0
  have HC0 := Aside0.mk hc0
  clear hr0 hc0
  have HR1 := Aside0.mk hr1
  have HC1 := Aside0.mk hc1
  clear hr1 hc1
  have H : (spec_l13Error.l0 k l0 l1 0 0) = some r := h
  clear h
  have H' := Aside0.mk H
  clear H
  go_enter Try.func34, Try.ntmps34
  go_wp2
  go_loopg [5, 6] k (fun kq v5 v6 w' => ∃ (x5_1 : Int) (x6_1 : Int), v5 = .int .i64 x5_1 ∧ v6 = .int .i64 x6_1 ∧ Aside0 (spec_l13Error.l0 kq l0 l1 x5_1 x6_1 = some r) ∧ Aside0 (kq ≤ k) ∧ Drawn0 w w')
  case atStart => exact ⟨(0), (0), qq13, qq13, H', ⟨Nat.le_refl _⟩, qq24⟩
  case round =>
    clear H'
    try clear c1
    try clear p2
    obtain ⟨x5_1, x6_1, rfl, rfl, HA, HK1, ⟨m1, rfl⟩⟩ := hrel
    cases gk with
    | zero => exact absurd HA.out (by simp [spec_l13Error.l0])
    | succ k1 =>
      have H := HA.out
      clear HA
      simp only [spec_l13Error.l0] at H
      by_cases c3 : x6_1 < (l1.length : Int)
      · rw [if_pos c3] at H
        have c3b0 : decide (x6_1 < (l1.length : Int)) = true := decide_eq_true c3
        clear c3
        by_cases c4 : 0 ≤ x6_1
        · rw [if_pos c4] at H
          have c4b0 : decide (0 ≤ x6_1) = true := decide_eq_true c4
          clear c4
          by_cases c5 : (rd l1 x6_1) > 0
          · rw [if_pos c5] at H
            have c5b0 : decide (0 < (rd l1 x6_1)) = true := decide_eq_true c5
            clear c5
            obtain ⟨ji6, hji6⟩ : ∃ j_ : Int, (wrap64 ((rd l1 x6_1) - 1)) = j_ := ⟨_, rfl⟩
            replace H : (if 0 ≤ (ji6) then (if (ji6) < (l0.length : Int) then (spec_l13Error.l0 k1 l0 l1 (wrap64 (x5_1 + ((rd_T32 l0 (ji6)).f2))) (wrap64 (x6_1 + 1))) else (none)) else (none)) = some r := by first | (rw [hji6] at H; exact H) | (simp only [hji6] at H ⊢; exact H)
            have hji6w : (IntKind.i64.wrap ((rd l1 x6_1) - 1)) = ji6 := (i64_w _).trans hji6
            by_cases c7 : 0 ≤ (ji6)
            · rw [if_pos c7] at H
              have c7b0 : decide (0 ≤ (ji6)) = true := decide_eq_true c7
              clear c7
              by_cases c8 : (ji6) < (l0.length : Int)
              · rw [if_pos c8] at H
                have c8b0 : decide ((ji6) < (l0.length : Int)) = true := decide_eq_true c8
                clear c8
                have H' := Aside0.mk H
                clear H
                have p421 : 0 ≤ (x6_1 : Int) := of_decide_eq_true qq3
                have q421 : x6_1 < (l1.length : Int) := of_decide_eq_true qq3
                obtain ⟨ad421, e421, hx421_0⟩ := Kd.at_int HR1.out x6_1 p421 q421
                cases e421
                replace p421 := eq_true p421
                replace q421 := eq_true q421
                have p422 : 0 ≤ (x6_1 : Int) := of_decide_eq_true qq3
                have q422 : x6_1 < (l1.length : Int) := of_decide_eq_true qq3
                obtain ⟨ad422, e422, hx422_0⟩ := Kd.at_int HR1.out x6_1 p422 q422
                obtain rfl : ad421 = ad422 := (by injection e422)
                replace p422 := eq_true p422
                replace q422 := eq_true q422
                have p423 : 0 ≤ ((ji6) : Int) := of_decide_eq_true qq3
                have q423 : (ji6) < (l0.length : Int) := of_decide_eq_true qq3
                obtain ⟨ad423, e423, hx423_0, hx423_1, hx423_2, hx423_3⟩ := at_T32 HR0.out (ji6) p423 q423
                cases e423
                replace p423 := eq_true p423
                replace q423 := eq_true q423
                go_wp2
                go_roundg k1
                case measure => have := HK1.out; omega
                case rel => exact ⟨(wrap64 (x5_1 + ((rd_T32 l0 (ji6)).f2))), (wrap64 (x6_1 + 1)), (by first | rfl | (simp; done) | (simp only [← hji6] <;> (first | rfl | simp)) | (simp [*]; done)), qq13, H', ⟨by have := HK1.out; omega⟩, qq24⟩
              · rw [if_neg c8] at H
                exact absurd H (by simp)
            · rw [if_neg c7] at H
              exact absurd H (by simp)
          · rw [if_neg c5] at H
            have c5b0 : decide (0 < (rd l1 x6_1)) = false := decide_eq_false c5
            clear c5
            obtain ⟨ji9, hji9⟩ : ∃ j_ : Int, (wrap64 ((wrap64 (-(rd l1 x6_1))) - 1)) = j_ := ⟨_, rfl⟩
            replace H : (if 0 ≤ (ji9) then (if (ji9) < (l0.length : Int) then (spec_l13Error.l0 k1 l0 l1 (wrap64 (x5_1 - ((rd_T32 l0 (ji9)).f2))) (wrap64 (x6_1 + 1))) else (none)) else (none)) = some r := by first | (rw [hji9] at H; exact H) | (simp only [hji9] at H ⊢; exact H)
            have hji9w : (IntKind.i64.wrap ((wrap64 (-(rd l1 x6_1))) - 1)) = ji9 := (i64_w _).trans hji9
            by_cases c10 : 0 ≤ (ji9)
            · rw [if_pos c10] at H
              have c10b0 : decide (0 ≤ (ji9)) = true := decide_eq_true c10
              clear c10
              by_cases c11 : (ji9) < (l0.length : Int)
              · rw [if_pos c11] at H
                have c11b0 : decide ((ji9) < (l0.length : Int)) = true := decide_eq_true c11
                clear c11
                have H' := Aside0.mk H
                clear H
                have p421 : 0 ≤ (x6_1 : Int) := of_decide_eq_true qq3
                have q421 : x6_1 < (l1.length : Int) := of_decide_eq_true qq3
                obtain ⟨ad421, e421, hx421_0⟩ := Kd.at_int HR1.out x6_1 p421 q421
                cases e421
                replace p421 := eq_true p421
                replace q421 := eq_true q421
                have p424 : 0 ≤ (x6_1 : Int) := of_decide_eq_true qq3
                have q424 : x6_1 < (l1.length : Int) := of_decide_eq_true qq3
                obtain ⟨ad424, e424, hx424_0⟩ := Kd.at_int HR1.out x6_1 p424 q424
                obtain rfl : ad421 = ad424 := (by injection e424)
                replace p424 := eq_true p424
                replace q424 := eq_true q424
                have p425 : 0 ≤ ((ji9) : Int) := of_decide_eq_true qq3
                have q425 : (ji9) < (l0.length : Int) := of_decide_eq_true qq3
                obtain ⟨ad425, e425, hx425_0, hx425_1, hx425_2, hx425_3⟩ := at_T32 HR0.out (ji9) p425 q425
                cases e425
                replace p425 := eq_true p425
                replace q425 := eq_true q425
                go_wp2
                go_roundg k1
                case measure => have := HK1.out; omega
                case rel => exact ⟨(wrap64 (x5_1 - ((rd_T32 l0 (ji9)).f2))), (wrap64 (x6_1 + 1)), (by first | rfl | (simp; done) | (simp only [← hji9] <;> (first | rfl | simp)) | (simp [*]; done)), qq13, H', ⟨by have := HK1.out; omega⟩, qq24⟩
              · rw [if_neg c11] at H
                exact absurd H (by simp)
            · rw [if_neg c10] at H
              exact absurd H (by simp)
        · rw [if_neg c4] at H
          exact absurd H (by simp)
      · rw [if_neg c3] at H
        have c3b0 : decide (x6_1 < (l1.length : Int)) = false := decide_eq_false c3
        clear c3
        obtain rfl := Option.some.inj H
        go_wp2
        go_ret
        exact ⟨qq13, qq24⟩

/-! ### impl_heightsValid: function 29 -/
def impl_heightsValid.l0 : Nat → List Int → Int → Int → Option (Bool)
  | 0, _, _, _ => none
  | k + 1, x11, x12, x13 => if x13 < x12 then (if 0 ≤ x13 then (if x13 < (x11.length : Int) then ((impl_within.f (rd x11 x13) 1000000).bind fun t476 => (if t476 = true then (impl_heightsValid.l0 k x11 x12 (wrap64 (x13 + 1))) else (some false))) else (none)) else (none)) else (some true)
def impl_heightsValid.f (k : Nat) (a0 : Int) (l1 : List Int) : Option (Bool) := if (l1.length : Int) = a0 then (impl_heightsValid.l0 k l1 (l1.length : Int) 0) else (some false)
set_option maxHeartbeats 8000000 in
set_option maxRecDepth 100000 in
theorem impl_heightsValid.calls (k : Nat) (a0 : Int) (A1 : Option Addr) (c1 : Nat) (l1 : List Int) (r : Bool) (w : World) (hr1 : Kd.C (Kd.int .i64) w A1 l1.length l1) (hc1 : l1.length ≤ c1) (h : impl_heightsValid.f k a0 l1 = some r) :
    Calls Try.prog 29 #[.int .i64 a0, .slice A1 l1.length c1] w fun e w' => e = .returned (.bool r) ∧ Drawn0 w w' := by
  have HR1 := Aside0.mk hr1
  have HC1 := Aside0.mk hc1
  clear hr1 hc1
  have H : (if (l1.length : Int) = a0 then (impl_heightsValid.l0 k l1 (l1.length : Int) 0) else (some false)) = some r := h
  clear h
  by_cases c3 : (l1.length : Int) = a0
  · rw [if_pos c3] at H
    have c3b0 : ((l1.length : Int) == a0) = true := beq_iff_eq.mpr c3
    have c3b1 : ((l1.length : Int) != a0) = false := bne_eq_false_iff_eq.mpr c3
    clear c3
    have H' := Aside0.mk H
    clear H
    go_enter Try.func29, Try.ntmps29
    go_wp2
    go_loopg [13] k (fun kq v13 w' => ∃ (x13_1 : Int), v13 = .int .i64 x13_1 ∧ Aside0 (impl_heightsValid.l0 kq l1 (l1.length : Int) x13_1 = some r) ∧ Aside0 (kq ≤ k) ∧ Drawn0 w w')
    case atStart => exact ⟨(0), qq13, H', ⟨Nat.le_refl _⟩, qq24⟩
    case round =>
      clear H'
      try clear c1
      try clear c2
      try clear p2
      try clear c3
      try clear c3b0
      try clear c3b1
      obtain ⟨x13_1, rfl, HA, HK1, ⟨m1, rfl⟩⟩ := hrel
      cases gk with
      | zero => exact absurd HA.out (by simp [impl_heightsValid.l0])
      | succ k1 =>
        have H := HA.out
        clear HA
        simp only [impl_heightsValid.l0] at H
        by_cases c4 : x13_1 < (l1.length : Int)
        · rw [if_pos c4] at H
          have c4b0 : decide (x13_1 < (l1.length : Int)) = true := decide_eq_true c4
          clear c4
          by_cases c5 : 0 ≤ x13_1
          · rw [if_pos c5] at H
            have c5b0 : decide (0 ≤ x13_1) = true := decide_eq_true c5
            clear c5
            by_cases c6 : x13_1 < (l1.length : Int)
            · rw [if_pos c6] at H
              have c6b0 : decide (x13_1 < (l1.length : Int)) = true := decide_eq_true c6
              clear c6
              replace H := Option.bind_eq_some_iff.mp H
              obtain ⟨t476, A70, H⟩ := H
              replace H : (if t476 = true then (impl_heightsValid.l0 k1 l1 (l1.length : Int) (wrap64 (x13_1 + 1))) else (some false)) = some r := H
              have A7 := Aside0.mk A70
              clear A70
              by_cases c8 : t476 = true
              · subst c8
                have H1 : (impl_heightsValid.l0 k1 l1 (l1.length : Int) (wrap64 (x13_1 + 1))) = some r := by rw [if_pos rfl] at H; exact H
                clear H
                have H := H1
                clear H1
                have H' := Aside0.mk H
                clear H
                have p475 : 0 ≤ (x13_1 : Int) := of_decide_eq_true qq3
                have q475 : x13_1 < (l1.length : Int) := of_decide_eq_true qq3
                obtain ⟨ad475, e475, hx475_0⟩ := Kd.at_int HR1.out x13_1 p475 q475
                cases e475
                replace p475 := eq_true p475
                replace q475 := eq_true q475
                go_wp2_with (first | ((with_reducible refine gate_callee (f := 37) rfl ?_); refine goesL_ (some 18) rfl rfl Try.func37 (by kernel_rfl) rfl #[.int .i64 (rd l1 x13_1), .int .i64 1000000] rfl qq5 ?_; (with_reducible refine (impl_within.calls (rd l1 x13_1) 1000000 true _ A7.out).mono ?_); rintro e w' ⟨rfl, ⟨nd, rfl⟩⟩; refine ⟨_, rfl, ?_⟩))
                go_roundg k1
                case measure => have := HK1.out; omega
                case rel => exact ⟨(wrap64 (x13_1 + 1)), qq13, H', ⟨by have := HK1.out; omega⟩, qq24⟩
              · replace c8 := Bool.eq_false_iff.mpr c8
                subst c8
                have H1 : (some false) = some r := by rw [if_neg (show ¬ (false = true) by decide)] at H; exact H
                clear H
                have H := H1
                clear H1
                obtain rfl := Option.some.inj H
                have p475 : 0 ≤ (x13_1 : Int) := of_decide_eq_true qq3
                have q475 : x13_1 < (l1.length : Int) := of_decide_eq_true qq3
                obtain ⟨ad475, e475, hx475_0⟩ := Kd.at_int HR1.out x13_1 p475 q475
                cases e475
                replace p475 := eq_true p475
                replace q475 := eq_true q475
                go_wp2_with (first | ((with_reducible refine gate_callee (f := 37) rfl ?_); refine goesL_ (some 18) rfl rfl Try.func37 (by kernel_rfl) rfl #[.int .i64 (rd l1 x13_1), .int .i64 1000000] rfl qq5 ?_; (with_reducible refine (impl_within.calls (rd l1 x13_1) 1000000 false _ A7.out).mono ?_); rintro e w' ⟨rfl, ⟨nd, rfl⟩⟩; refine ⟨_, rfl, ?_⟩))
                go_ret
                exact ⟨qq13, qq24⟩
            · rw [if_neg c6] at H
              exact absurd H (by simp)
          · rw [if_neg c5] at H
            exact absurd H (by simp)
        · rw [if_neg c4] at H
          have c4b0 : decide (x13_1 < (l1.length : Int)) = false := decide_eq_false c4
          clear c4
          obtain rfl := Option.some.inj H
          go_wp2
          go_ret
          exact ⟨qq13, qq24⟩
  · rw [if_neg c3] at H
    have c3b0 : ((l1.length : Int) == a0) = false := beq_eq_false_iff_ne.mpr c3
    have c3b1 : ((l1.length : Int) != a0) = true := bne_iff_ne.mpr c3
    obtain rfl := Option.some.inj H
    go_enter Try.func29, Try.ntmps29
    go_wp2
    go_ret
    exact ⟨qq13, qq24⟩

end Go.Proofs.Ytmcfhmflncghiaa.Q
namespace Go.Proofs.Ytmcfhmflncghiaa.Q
open Go.RowKit Go.Proofs.YtmcfhmflncghiaaW.PrintWords Go.Proofs.YtmcfhmflncghiaaW.PrintLast Go.Proofs.YtmcfhmflncghiaaW.PrintMore
attribute [local go_sem] max2_int min2_int max_two min_two max_three min_three max_four min_four
set_option linter.unusedVariables false
set_option linter.unusedSimpArgs false

/-! ### spec_l11Linked: function 65 -/
mutual
def spec_l11Linked.l0 : Nat → Int → List (S32) → List Int → Int → Option (List Int)
  | 0, _, _, _, _ => none
  | k + 1, x0, x1, x5, x6 => if x6 < x0 then (if x5.length < 17592186044416 then (spec_l11Linked.l0 k x0 x1 (x5 ++ [x6]) (wrap64 (x6 + 1))) else (none)) else (spec_l11Linked.l1 k x0 x1 x5 0)
def spec_l11Linked.l1 : Nat → Int → List (S32) → List Int → Int → Option (List Int)
  | 0, _, _, _, _ => none
  | k + 1, x0, x1, x5, x7 => if x7 < x0 then (spec_l11Linked.l2 k x0 x1 x5 x7 0) else (some x5)
def spec_l11Linked.l2 : Nat → Int → List (S32) → List Int → Int → Int → Option (List Int)
  | 0, _, _, _, _, _ => none
  | k + 1, x0, x1, x5, x7, x8 => if x8 < (x1.length : Int) then (if 0 ≤ x8 then (if 0 ≤ ((rd_T32 x1 x8).f0) then (if ((rd_T32 x1 x8).f0) < (x5.length : Int) then (if 0 ≤ ((rd_T32 x1 x8).f1) then (if ((rd_T32 x1 x8).f1) < (x5.length : Int) then (spec_l11Linked.l2 k x0 x1 ((x5.set (((rd_T32 x1 x8).f0) : Int).toNat (mn (rd x5 ((rd_T32 x1 x8).f0)) (rd x5 ((rd_T32 x1 x8).f1)))).set (((rd_T32 x1 x8).f1) : Int).toNat (mn (rd x5 ((rd_T32 x1 x8).f0)) (rd x5 ((rd_T32 x1 x8).f1)))) x7 (wrap64 (x8 + 1))) else (none)) else (none)) else (none)) else (none)) else (none)) else (spec_l11Linked.l1 k x0 x1 x5 (wrap64 (x7 + 1)))
end
def spec_l11Linked.f (k : Nat) (a0 : Int) (l1 : List (S32)) : Option (List Int) := spec_l11Linked.l0 k a0 l1 (([] : List Int)) 0
set_option maxHeartbeats 8000000 in
set_option maxRecDepth 100000 in
theorem spec_l11Linked.calls (k : Nat) (a0 : Int) (A1 : Option Addr) (c1 : Nat) (l1 : List (S32)) (r : List Int) (w : World) (hr1 : Kd.C k32 w A1 l1.length l1) (hc1 : l1.length ≤ c1) (h : spec_l11Linked.f k a0 l1 = some r) :
    Calls Try.prog 65 #[.int .i64 a0, .slice A1 l1.length c1] w fun e w' => ∃ v0_ : Value, e = .returned (v0_) ∧ Kd.R (Kd.int .i64) 3 w' w.heap.size (fun _ => True) v0_ r ∧ Below w.heap.size w w' := by
  have HR1 := Aside0.mk hr1
  have HC1 := Aside0.mk hc1
  clear hr1 hc1
  have HB := Aside0.mk (Below.refl w.heap.size w)
  have H : (spec_l11Linked.l0 k a0 l1 (([] : List Int)) 0) = some r := h
  clear h
  obtain ⟨y321, hy321⟩ : ∃ y_ : List Int, y_ = (([] : List Int)) := ⟨_, rfl⟩
  replace H : (spec_l11Linked.l0 k a0 l1 y321 0) = some r := by first | (rw [hy321]; with_reducible exact H) | (have H2_ := (Option.bind_some _ _).symm.trans H; rw [hy321]; with_reducible exact H2_) | (have H2_ := (Option.bind_some _ _).symm.trans H; with_reducible exact H2_) | with_reducible exact H | (rw [hy321]; exact H) | exact H
  have Ny321 := Aside0.mk hy321
  clear hy321
  have H' := Aside0.mk H
  clear H
  go_enter Try.func65, Try.ntmps65
  go_wp2_with (first | ((with_reducible refine gate_dst (N := 10) rfl ?_); refine Kd.R_lit (Kd.int .i64) _ 3 ?hg (N := 10) ?hd (xs := ([] : List Int)) (inner := []) (ok := fun _ => True) (okp := fun _ => True) ?hr ?hp (fun _ hk => hk) trivial (Below.refl _ _) (Nat.le_refl _) (by simp) ?_; (case hd => rfl); (case hg => rfl); (case hr => exact qq16); (case hp => exact (Reps.none _ _)); intro v322 w3 ho4 hb hg_ hnew_; clear hg_ hnew_; (first | rw [← Ny321.out] at ho4 | (simp only [Int.reduceToNat] at ho4; rw [← Ny321.out] at ho4)); have n0_ := Aside0.mk (Kd.R_lower ho4 (below_size qq1)); have n1_ := Aside0.mk (below_step qq1 hb); clear HB; have HO323 := n0_; have HB := n1_; clear n0_ n1_; clear hb ho4))
  repeat (go_quiet (first | ((with_reducible refine gate_dst (N := 10) rfl ?_); refine Kd.R_lit (Kd.int .i64) _ 3 ?hg (N := 10) ?hd (xs := ([] : List Int)) (inner := []) (ok := fun _ => True) (okp := fun _ => True) ?hr ?hp (fun _ hk => hk) trivial (Below.refl _ _) (Nat.le_refl _) (by simp) ?_; (case hd => rfl); (case hg => rfl); (case hr => exact qq16); (case hp => exact (Reps.none _ _)); intro v322 w3 ho4 hb hg_ hnew_; clear hg_ hnew_; (first | rw [← Ny321.out] at ho4 | (simp only [Int.reduceToNat] at ho4; rw [← Ny321.out] at ho4)); have n0_ := Aside0.mk (Kd.R_lower ho4 (below_size qq1)); have n1_ := Aside0.mk (below_step qq1 hb); clear HB; have HO323 := n0_; have HB := n1_; clear n0_ n1_; clear hb ho4)); try go_wp2_with (first | ((with_reducible refine gate_dst (N := 10) rfl ?_); refine Kd.R_lit (Kd.int .i64) _ 3 ?hg (N := 10) ?hd (xs := ([] : List Int)) (inner := []) (ok := fun _ => True) (okp := fun _ => True) ?hr ?hp (fun _ hk => hk) trivial (Below.refl _ _) (Nat.le_refl _) (by simp) ?_; (case hd => rfl); (case hg => rfl); (case hr => exact qq16); (case hp => exact (Reps.none _ _)); intro v322 w3 ho4 hb hg_ hnew_; clear hg_ hnew_; (first | rw [← Ny321.out] at ho4 | (simp only [Int.reduceToNat] at ho4; rw [← Ny321.out] at ho4)); have n0_ := Aside0.mk (Kd.R_lower ho4 (below_size qq1)); have n1_ := Aside0.mk (below_step qq1 hb); clear HB; have HO323 := n0_; have HB := n1_; clear n0_ n1_; clear hb ho4)))
  go_loopg [5, 6] k (fun kq v5 v6 w' => ∃ (x5_1 : List Int) (x6_1 : Int), v6 = .int .i64 x6_1 ∧ Aside0 (spec_l11Linked.l0 kq a0 l1 x5_1 x6_1 = some r) ∧ Aside0 (kq ≤ k) ∧ Aside0 (Kd.R (Kd.int .i64) 3 w' w.heap.size (fun _ => True) v5 x5_1) ∧ Aside0 (Below w.heap.size w w'))
  case atStart => exact ⟨(y321), (0), qq13, H', ⟨Nat.le_refl _⟩, ⟨qq2 HO323.out⟩, ⟨qq1⟩⟩
  case round =>
    clear H'
    try clear c1
    try clear p2
    obtain ⟨x5_1, x6_1, rfl, HA, HK1, HO_5, HB⟩ := hrel
    cases gk with
    | zero => exact absurd HA.out (by simp [spec_l11Linked.l0])
    | succ k1 =>
      have H := HA.out
      clear HA
      simp only [spec_l11Linked.l0] at H
      by_cases c5 : x6_1 < a0
      · rw [if_pos c5] at H
        have c5b0 : decide (x6_1 < a0) = true := decide_eq_true c5
        clear c5
        by_cases c6 : x5_1.length < 17592186044416
        · rw [if_pos c6] at H
          have LMc6 := Aside0.mk c6
          clear c6
          obtain ⟨y324, hy324⟩ : ∃ y_ : List Int, y_ = (x5_1 ++ [x6_1]) := ⟨_, rfl⟩
          replace H : (spec_l11Linked.l0 k1 a0 l1 y324 (wrap64 (x6_1 + 1))) = some r := by first | (rw [hy324]; with_reducible exact H) | (have H2_ := (Option.bind_some _ _).symm.trans H; rw [hy324]; with_reducible exact H2_) | (have H2_ := (Option.bind_some _ _).symm.trans H; with_reducible exact H2_) | with_reducible exact H | (rw [hy324]; exact H) | exact H
          have Ny324 := Aside0.mk hy324
          clear hy324
          have H' := Aside0.mk H
          clear H
          go_wp2_with (first | ((with_reducible refine gate_builtin (b := .append) (xs := #[.tmp 16, .tmp 18]) rfl ?_); at_builtin; refine Kd.R_append (Kd.int .i64) (w0 := w) w.heap.size rfl (.tmp 16) (.tmp 18) 27 3 (.int .i64 0) 8 rfl Try.underlying27 info3 rfl (by decide) (by omega) u5 x5_1 x6_1 [.int .i64 x6_1] (fun _ => True) (fun _ => False) rfl rfl ?aP (fun _ hk => hk.elim) ?aF ?aO ?aB ?aS ?aL ?_; (case aP => exact rfl); (case aB => exact qq1); (case aF => exact qq75); (case aO => exact (qq2 HO_5.out)); (case aS => exact (below_size qq1)); (case aL => have := LMc6.out; omega); intro v325 w7 ho hb hg hat; rw [← Ny324.out] at ho; have n0_ := Aside0.mk (hb); have n1_ := Aside0.mk (ho); clear HB; clear HO_5; have HB := n0_; have HO326 := n1_; clear n0_ n1_; clear ho hb hg hat))
          repeat (go_quiet (first | ((with_reducible refine gate_builtin (b := .append) (xs := #[.tmp 16, .tmp 18]) rfl ?_); at_builtin; refine Kd.R_append (Kd.int .i64) (w0 := w) w.heap.size rfl (.tmp 16) (.tmp 18) 27 3 (.int .i64 0) 8 rfl Try.underlying27 info3 rfl (by decide) (by omega) u5 x5_1 x6_1 [.int .i64 x6_1] (fun _ => True) (fun _ => False) rfl rfl ?aP (fun _ hk => hk.elim) ?aF ?aO ?aB ?aS ?aL ?_; (case aP => exact rfl); (case aB => exact qq1); (case aF => exact qq75); (case aO => exact (qq2 HO_5.out)); (case aS => exact (below_size qq1)); (case aL => have := LMc6.out; omega); intro v325 w7 ho hb hg hat; rw [← Ny324.out] at ho; have n0_ := Aside0.mk (hb); have n1_ := Aside0.mk (ho); clear HB; clear HO_5; have HB := n0_; have HO326 := n1_; clear n0_ n1_; clear ho hb hg hat)); try go_wp2_with (first | ((with_reducible refine gate_builtin (b := .append) (xs := #[.tmp 16, .tmp 18]) rfl ?_); at_builtin; refine Kd.R_append (Kd.int .i64) (w0 := w) w.heap.size rfl (.tmp 16) (.tmp 18) 27 3 (.int .i64 0) 8 rfl Try.underlying27 info3 rfl (by decide) (by omega) u5 x5_1 x6_1 [.int .i64 x6_1] (fun _ => True) (fun _ => False) rfl rfl ?aP (fun _ hk => hk.elim) ?aF ?aO ?aB ?aS ?aL ?_; (case aP => exact rfl); (case aB => exact qq1); (case aF => exact qq75); (case aO => exact (qq2 HO_5.out)); (case aS => exact (below_size qq1)); (case aL => have := LMc6.out; omega); intro v325 w7 ho hb hg hat; rw [← Ny324.out] at ho; have n0_ := Aside0.mk (hb); have n1_ := Aside0.mk (ho); clear HB; clear HO_5; have HB := n0_; have HO326 := n1_; clear n0_ n1_; clear ho hb hg hat)))
          go_roundg k1
          case measure => have := HK1.out; omega
          case rel => exact ⟨(y324), (wrap64 (x6_1 + 1)), qq13, H', ⟨by have := HK1.out; omega⟩, ⟨qq2 HO326.out⟩, ⟨qq1⟩⟩
        · rw [if_neg c6] at H
          exact absurd H (by simp)
      · rw [if_neg c5] at H
        have c5b0 : decide (x6_1 < a0) = false := decide_eq_false c5
        clear c5
        have H' := Aside0.mk H
        clear H
        go_wp2
        repeat (go_quiet (fail); try go_wp2)
        go_loopg [7] k1 (fun kq v7 w' => ∃ (x5_2 : List Int) (x7_2 : Int), v7 = .int .i64 x7_2 ∧ Aside0 (spec_l11Linked.l1 kq a0 l1 x5_2 x7_2 = some r) ∧ Aside0 (kq ≤ k1) ∧ Aside0 (Kd.R (Kd.int .i64) 3 w' w.heap.size (fun _ => True) u5 x5_2) ∧ Aside0 (Below w.heap.size w w'))
        case atStart => exact ⟨(x5_1), (0), qq13, H', ⟨Nat.le_refl _⟩, ⟨qq2 HO_5.out⟩, ⟨qq1⟩⟩
        case round =>
          clear H'
          try clear c1
          try clear p2
          try clear c5
          try clear c5b0
          try clear c6
          try clear p6
          try clear p2
          obtain ⟨x5_2, x7_2, rfl, HA, HK2, HO_5, HB⟩ := hrel
          cases gk with
          | zero => exact absurd HA.out (by simp [spec_l11Linked.l1])
          | succ k2 =>
            have H := HA.out
            clear HA
            simp only [spec_l11Linked.l1] at H
            by_cases c8 : x7_2 < a0
            · rw [if_pos c8] at H
              have c8b0 : decide (x7_2 < a0) = true := decide_eq_true c8
              clear c8
              have H' := Aside0.mk H
              clear H
              go_wp2
              repeat (go_quiet (fail); try go_wp2)
              go_loopg [8] k2 (fun kq v8 w' => ∃ (x5_3 : List Int) (x8_3 : Int), v8 = .int .i64 x8_3 ∧ Aside0 (spec_l11Linked.l2 kq a0 l1 x5_3 x7_2 x8_3 = some r) ∧ Aside0 (kq ≤ k2) ∧ Aside0 (Kd.R (Kd.int .i64) 3 w' w.heap.size (fun _ => True) u5 x5_3) ∧ Aside0 (Below w.heap.size w w'))
              case atStart => exact ⟨(x5_2), (0), qq13, H', ⟨Nat.le_refl _⟩, ⟨qq2 HO_5.out⟩, ⟨qq1⟩⟩
              case round =>
                clear H'
                try clear c1
                try clear p2
                try clear c5
                try clear c5b0
                try clear c6
                try clear p6
                try clear c8
                try clear c8b0
                try clear p2
                try clear p6
                obtain ⟨x5_3, x8_3, rfl, HA, HK3, HO_5, HB⟩ := hrel
                cases gk with
                | zero => exact absurd HA.out (by simp [spec_l11Linked.l2])
                | succ k3 =>
                  have H := HA.out
                  clear HA
                  simp only [spec_l11Linked.l2] at H
                  by_cases c9 : x8_3 < (l1.length : Int)
                  · rw [if_pos c9] at H
                    have c9b0 : decide (x8_3 < (l1.length : Int)) = true := decide_eq_true c9
                    clear c9
                    by_cases c10 : 0 ≤ x8_3
                    · rw [if_pos c10] at H
                      have c10b0 : decide (0 ≤ x8_3) = true := decide_eq_true c10
                      clear c10
                      by_cases c11 : 0 ≤ ((rd_T32 l1 x8_3).f0)
                      · rw [if_pos c11] at H
                        have c11b0 : decide (0 ≤ ((rd_T32 l1 x8_3).f0)) = true := decide_eq_true c11
                        clear c11
                        by_cases c12 : ((rd_T32 l1 x8_3).f0) < (x5_3.length : Int)
                        · rw [if_pos c12] at H
                          have c12b0 : decide (((rd_T32 l1 x8_3).f0) < (x5_3.length : Int)) = true := decide_eq_true c12
                          clear c12
                          by_cases c13 : 0 ≤ ((rd_T32 l1 x8_3).f1)
                          · rw [if_pos c13] at H
                            have c13b0 : decide (0 ≤ ((rd_T32 l1 x8_3).f1)) = true := decide_eq_true c13
                            clear c13
                            by_cases c14 : ((rd_T32 l1 x8_3).f1) < (x5_3.length : Int)
                            · rw [if_pos c14] at H
                              have c14b0 : decide (((rd_T32 l1 x8_3).f1) < (x5_3.length : Int)) = true := decide_eq_true c14
                              clear c14
                              obtain ⟨ji15, hji15⟩ : ∃ j_ : Int, (mn (rd x5_3 ((rd_T32 l1 x8_3).f0)) (rd x5_3 ((rd_T32 l1 x8_3).f1))) = j_ := ⟨_, rfl⟩
                              replace H : (spec_l11Linked.l2 k3 a0 l1 ((x5_3.set (((rd_T32 l1 x8_3).f0) : Int).toNat (ji15)).set (((rd_T32 l1 x8_3).f1) : Int).toNat (ji15)) x7_2 (wrap64 (x8_3 + 1))) = some r := by first | (rw [hji15] at H; exact H) | (simp only [hji15] at H ⊢; exact H)
                              have hji15_ : (if (rd x5_3 ((rd_T32 l1 x8_3).f1)) < (rd x5_3 ((rd_T32 l1 x8_3).f0)) then (rd x5_3 ((rd_T32 l1 x8_3).f1)) else (rd x5_3 ((rd_T32 l1 x8_3).f0))) = ji15 := hji15
                              obtain ⟨y332, hy332⟩ : ∃ y_ : List Int, y_ = (x5_3.set (((rd_T32 l1 x8_3).f0) : Int).toNat (ji15)) := ⟨_, rfl⟩
                              replace H : (spec_l11Linked.l2 k3 a0 l1 (y332.set (((rd_T32 l1 x8_3).f1) : Int).toNat (ji15)) x7_2 (wrap64 (x8_3 + 1))) = some r := by first | (rw [hy332]; with_reducible exact H) | (have H2_ := (Option.bind_some _ _).symm.trans H; rw [hy332]; with_reducible exact H2_) | (have H2_ := (Option.bind_some _ _).symm.trans H; with_reducible exact H2_) | with_reducible exact H | (rw [hy332]; exact H) | exact H
                              have Ny332 := Aside0.mk hy332
                              clear hy332
                              obtain ⟨y334, hy334⟩ : ∃ y_ : List Int, y_ = (y332.set (((rd_T32 l1 x8_3).f1) : Int).toNat (ji15)) := ⟨_, rfl⟩
                              replace H : (spec_l11Linked.l2 k3 a0 l1 y334 x7_2 (wrap64 (x8_3 + 1))) = some r := by first | (rw [hy334]; with_reducible exact H) | (have H2_ := (Option.bind_some _ _).symm.trans H; rw [hy334]; with_reducible exact H2_) | (have H2_ := (Option.bind_some _ _).symm.trans H; with_reducible exact H2_) | with_reducible exact H | (rw [hy334]; exact H) | exact H
                              have Ny334 := Aside0.mk hy334
                              clear hy334
                              have H' := Aside0.mk H
                              clear H
                              have p327 : 0 ≤ (x8_3 : Int) := of_decide_eq_true qq3
                              have q327 : x8_3 < (l1.length : Int) := of_decide_eq_true qq3
                              obtain ⟨ad327, e327, hx327_0, hx327_1, hx327_2, hx327_3⟩ := at_T32 HR1.out x8_3 p327 q327
                              cases e327
                              replace hx327_0 := (HB.out.cell (World.block_lt_of_cell? w _ hx327_0)).trans hx327_0
                              replace hx327_1 := (HB.out.cell (World.block_lt_of_cell? w _ hx327_1)).trans hx327_1
                              replace hx327_2 := (HB.out.cell (World.block_lt_of_cell? w _ hx327_2)).trans hx327_2
                              replace hx327_3 := (HB.out.cell (World.block_lt_of_cell? w _ hx327_3)).trans hx327_3
                              replace p327 := eq_true p327
                              replace q327 := eq_true q327
                              obtain ⟨Ao18, co18, eo18⟩ := Kd.R_slice HO_5.out
                              subst eo18
                              have p328 : 0 ≤ (((rd_T32 l1 x8_3).f0) : Int) := of_decide_eq_true qq3
                              have q328 : ((rd_T32 l1 x8_3).f0) < (x5_3.length : Int) := of_decide_eq_true qq3
                              obtain ⟨ad328, e328, hx328_0⟩ := Kd.at_int (Kd.R_reads' HO_5.out).2.2 ((rd_T32 l1 x8_3).f0) p328 q328
                              cases e328
                              replace p328 := eq_true p328
                              replace q328 := eq_true q328
                              have p329 : 0 ≤ (x8_3 : Int) := of_decide_eq_true qq3
                              have q329 : x8_3 < (l1.length : Int) := of_decide_eq_true qq3
                              obtain ⟨ad329, e329, hx329_0, hx329_1, hx329_2, hx329_3⟩ := at_T32 HR1.out x8_3 p329 q329
                              obtain rfl : ad327 = ad329 := (by injection e329)
                              replace hx329_0 := (HB.out.cell (World.block_lt_of_cell? w _ hx329_0)).trans hx329_0
                              replace hx329_1 := (HB.out.cell (World.block_lt_of_cell? w _ hx329_1)).trans hx329_1
                              replace hx329_2 := (HB.out.cell (World.block_lt_of_cell? w _ hx329_2)).trans hx329_2
                              replace hx329_3 := (HB.out.cell (World.block_lt_of_cell? w _ hx329_3)).trans hx329_3
                              replace p329 := eq_true p329
                              replace q329 := eq_true q329
                              have p330 : 0 ≤ (((rd_T32 l1 x8_3).f1) : Int) := of_decide_eq_true qq3
                              have q330 : ((rd_T32 l1 x8_3).f1) < (x5_3.length : Int) := of_decide_eq_true qq3
                              obtain ⟨ad330, e330, hx330_0⟩ := Kd.at_int (Kd.R_reads' HO_5.out).2.2 ((rd_T32 l1 x8_3).f1) p330 q330
                              obtain rfl : ad328 = ad330 := (by injection e330)
                              replace p330 := eq_true p330
                              replace q330 := eq_true q330
                              have p331 : 0 ≤ (x8_3 : Int) := of_decide_eq_true qq3
                              have q331 : x8_3 < (l1.length : Int) := of_decide_eq_true qq3
                              obtain ⟨ad331, e331, hx331_0, hx331_1, hx331_2, hx331_3⟩ := at_T32 HR1.out x8_3 p331 q331
                              obtain rfl : ad327 = ad331 := (by injection e331)
                              replace hx331_0 := (HB.out.cell (World.block_lt_of_cell? w _ hx331_0)).trans hx331_0
                              replace hx331_1 := (HB.out.cell (World.block_lt_of_cell? w _ hx331_1)).trans hx331_1
                              replace hx331_2 := (HB.out.cell (World.block_lt_of_cell? w _ hx331_2)).trans hx331_2
                              replace hx331_3 := (HB.out.cell (World.block_lt_of_cell? w _ hx331_3)).trans hx331_3
                              replace p331 := eq_true p331
                              replace q331 := eq_true q331
                              have p16 : 0 ≤ (((rd_T32 l1 x8_3).f0) : Int) := of_decide_eq_true qq3
                              have q16 : (((rd_T32 l1 x8_3).f0) : Int) < ((x5_3.length : Int) : Int) := of_decide_eq_true qq3
                              obtain ⟨go16, co16, eo16, gb16, gl16, cl16, HG16⟩ := Kd.R_form HO_5.out (by omega)
                              (first | cases eo16 | (injection eo16 with ea_ en_ ec_; (first | subst ea_ | (injection ea_ with ea_; subst ea_)); subst ec_; clear en_))
                              have GB16 := Aside0.mk gb16
                              have GG16 := Aside0.mk HG16
                              clear gb16 gl16 HG16
                              (first | simp only [add_plain] at hx328_0 | skip)
                              (first | simp only [add_plain] at hx330_0 | skip)
                              obtain ⟨hx16_0, hf16_0⟩ := Kd.R_celln 0 HO_5.out (((rd_T32 l1 x8_3).f0) : Int) p16 q16
                              replace p16 := eq_true p16
                              replace q16 := eq_true q16
                              have HP19 := Kd.R_putg HO_5.out (((rd_T32 l1 x8_3).f0) : Int) ji15
                              go_wp2_with (first | ((with_reducible refine gate_store (t := 3) (p := 55) rfl ?_); (try ((first | (generalize hq_ : World.drewN wr _ = wr) | (rw [drewN_self wr]; generalize hq_ : World.drewN wr _ = wr)); have n0_ := Aside0.mk (Kd.R_at hq_ HO_5.out); have n1_ := Aside0.mk (below_at hq_ HB.out); clear hq_ HO_5 HB; have HO_5 := n0_; have HB := n1_; clear n0_ n1_; (try (have HP19 := Kd.R_putg HO_5.out (((rd_T32 l1 x8_3).f0) : Int) ji15))); (try (obtain ⟨hx16_0, hf16_0⟩ := Kd.R_celln 0 HO_5.out (((rd_T32 l1 x8_3).f0) : Int) (of_eq_true p16) (of_eq_true q16)))); refine store_event (t := 3) (p := 55) (v := ?vo_w20) (w1 := (wr.setCell ⟨go16, (((rd_T32 l1 x8_3).f0) : Int).toNat, none⟩ (.int .i64 ji15))) ?hg ?ho ?hn ?hr ?_; (case ho => rfl); (case hg => rfl); (case hn => rfl); (case hr => exact qq16); intro w20 hw; have hg : wr.grownBy w20 (some go16) := (by rw [hw]; exact HP19.2); have hp_ : Kd.R (Kd.int .i64) 3 w20 w.heap.size (fun _ => True) (.slice (some ⟨go16, 0, none⟩) x5_3.length co18) y332 := (by rw [hw, Ny332.out]; exact HP19.1); clear HP19; have n0_ := Aside0.mk (hp_); have n1_ := Aside0.mk ((qq62 : Below w.heap.size w w20)); clear HO_5; clear HB; have HO_5 := n0_; have HB := n1_; clear n0_ n1_; clear hg hw hp_; have p333 : 0 ≤ (x8_3 : Int) := of_decide_eq_true qq3; have q333 : x8_3 < (l1.length : Int) := of_decide_eq_true qq3; obtain ⟨ad333, e333, hx333_0, hx333_1, hx333_2, hx333_3⟩ := at_T32 HR1.out x8_3 p333 q333; obtain rfl : ad327 = ad333 := (by injection e333); replace hx333_0 := (HB.out.cell (World.block_lt_of_cell? w _ hx333_0)).trans hx333_0; replace hx333_1 := (HB.out.cell (World.block_lt_of_cell? w _ hx333_1)).trans hx333_1; replace hx333_2 := (HB.out.cell (World.block_lt_of_cell? w _ hx333_2)).trans hx333_2; replace hx333_3 := (HB.out.cell (World.block_lt_of_cell? w _ hx333_3)).trans hx333_3; replace p333 := eq_true p333; replace q333 := eq_true q333; have p17 : 0 ≤ (((rd_T32 l1 x8_3).f1) : Int) := of_decide_eq_true qq3; have q17 : (((rd_T32 l1 x8_3).f1) : Int) < ((x5_3.length : Int) : Int) := of_decide_eq_true qq3; obtain ⟨hx17_0, hf17_0⟩ := Kd.R_celln 0 HO_5.out (((rd_T32 l1 x8_3).f1) : Int) p17 q17; replace p17 := eq_true p17; replace q17 := eq_true q17; obtain ⟨hy21_, hz21_⟩ := Kd.R_celln 0 HO_5.out (((rd_T32 l1 x8_3).f1) : Int) (of_decide_eq_true qq3) (of_decide_eq_true qq3); have HP21 := Kd.R_putg HO_5.out (((rd_T32 l1 x8_3).f1) : Int) ji15) | ((with_reducible refine gate_store (t := 3) (p := 63) rfl ?_); (try (rw [drewN_self w20]; generalize hq_ : World.drewN w20 _ = w20; have n0_ := Aside0.mk (Kd.R_at hq_ HO_5.out); have n1_ := Aside0.mk (below_at hq_ HB.out); clear hq_ HO_5 HB; have HO_5 := n0_; have HB := n1_; clear n0_ n1_; (try (obtain ⟨hy21_, hz21_⟩ := Kd.R_celln 0 HO_5.out (((rd_T32 l1 x8_3).f1) : Int) (of_decide_eq_true qq3) (of_decide_eq_true qq3))); (try (have HP21 := Kd.R_putg HO_5.out (((rd_T32 l1 x8_3).f1) : Int) ji15)))); refine store_event (t := 3) (p := 63) (v := ?vo_w22) (w1 := (w20.setCell ⟨go16, (((rd_T32 l1 x8_3).f1) : Int).toNat, none⟩ (.int .i64 ji15))) ?hg ?ho ?hn ?hr ?_; (case ho => rfl); (case hg => rfl); (case hn => rfl); (case hr => exact qq16); intro w22 hw; have hg : w20.grownBy w22 (some go16) := (by rw [hw]; exact HP21.2); have hp_ : Kd.R (Kd.int .i64) 3 w22 w.heap.size (fun _ => True) (.slice (some ⟨go16, 0, none⟩) x5_3.length co18) y334 := (by rw [hw, Ny334.out]; exact HP21.1); clear HP21; have n0_ := Aside0.mk (hp_); have n1_ := Aside0.mk ((qq62 : Below w.heap.size w w22)); clear HO_5; clear HB; have HO_5 := n0_; have HB := n1_; clear n0_ n1_; clear hg hw hp_))
                              repeat (go_quiet (first | ((with_reducible refine gate_store (t := 3) (p := 55) rfl ?_); (try ((first | (generalize hq_ : World.drewN wr _ = wr) | (rw [drewN_self wr]; generalize hq_ : World.drewN wr _ = wr)); have n0_ := Aside0.mk (Kd.R_at hq_ HO_5.out); have n1_ := Aside0.mk (below_at hq_ HB.out); clear hq_ HO_5 HB; have HO_5 := n0_; have HB := n1_; clear n0_ n1_; (try (have HP19 := Kd.R_putg HO_5.out (((rd_T32 l1 x8_3).f0) : Int) ji15))); (try (obtain ⟨hx16_0, hf16_0⟩ := Kd.R_celln 0 HO_5.out (((rd_T32 l1 x8_3).f0) : Int) (of_eq_true p16) (of_eq_true q16)))); refine store_event (t := 3) (p := 55) (v := ?vo_w20) (w1 := (wr.setCell ⟨go16, (((rd_T32 l1 x8_3).f0) : Int).toNat, none⟩ (.int .i64 ji15))) ?hg ?ho ?hn ?hr ?_; (case ho => rfl); (case hg => rfl); (case hn => rfl); (case hr => exact qq16); intro w20 hw; have hg : wr.grownBy w20 (some go16) := (by rw [hw]; exact HP19.2); have hp_ : Kd.R (Kd.int .i64) 3 w20 w.heap.size (fun _ => True) (.slice (some ⟨go16, 0, none⟩) x5_3.length co18) y332 := (by rw [hw, Ny332.out]; exact HP19.1); clear HP19; have n0_ := Aside0.mk (hp_); have n1_ := Aside0.mk ((qq62 : Below w.heap.size w w20)); clear HO_5; clear HB; have HO_5 := n0_; have HB := n1_; clear n0_ n1_; clear hg hw hp_; have p333 : 0 ≤ (x8_3 : Int) := of_decide_eq_true qq3; have q333 : x8_3 < (l1.length : Int) := of_decide_eq_true qq3; obtain ⟨ad333, e333, hx333_0, hx333_1, hx333_2, hx333_3⟩ := at_T32 HR1.out x8_3 p333 q333; obtain rfl : ad327 = ad333 := (by injection e333); replace hx333_0 := (HB.out.cell (World.block_lt_of_cell? w _ hx333_0)).trans hx333_0; replace hx333_1 := (HB.out.cell (World.block_lt_of_cell? w _ hx333_1)).trans hx333_1; replace hx333_2 := (HB.out.cell (World.block_lt_of_cell? w _ hx333_2)).trans hx333_2; replace hx333_3 := (HB.out.cell (World.block_lt_of_cell? w _ hx333_3)).trans hx333_3; replace p333 := eq_true p333; replace q333 := eq_true q333; have p17 : 0 ≤ (((rd_T32 l1 x8_3).f1) : Int) := of_decide_eq_true qq3; have q17 : (((rd_T32 l1 x8_3).f1) : Int) < ((x5_3.length : Int) : Int) := of_decide_eq_true qq3; obtain ⟨hx17_0, hf17_0⟩ := Kd.R_celln 0 HO_5.out (((rd_T32 l1 x8_3).f1) : Int) p17 q17; replace p17 := eq_true p17; replace q17 := eq_true q17; obtain ⟨hy21_, hz21_⟩ := Kd.R_celln 0 HO_5.out (((rd_T32 l1 x8_3).f1) : Int) (of_decide_eq_true qq3) (of_decide_eq_true qq3); have HP21 := Kd.R_putg HO_5.out (((rd_T32 l1 x8_3).f1) : Int) ji15) | ((with_reducible refine gate_store (t := 3) (p := 63) rfl ?_); (try (rw [drewN_self w20]; generalize hq_ : World.drewN w20 _ = w20; have n0_ := Aside0.mk (Kd.R_at hq_ HO_5.out); have n1_ := Aside0.mk (below_at hq_ HB.out); clear hq_ HO_5 HB; have HO_5 := n0_; have HB := n1_; clear n0_ n1_; (try (obtain ⟨hy21_, hz21_⟩ := Kd.R_celln 0 HO_5.out (((rd_T32 l1 x8_3).f1) : Int) (of_decide_eq_true qq3) (of_decide_eq_true qq3))); (try (have HP21 := Kd.R_putg HO_5.out (((rd_T32 l1 x8_3).f1) : Int) ji15)))); refine store_event (t := 3) (p := 63) (v := ?vo_w22) (w1 := (w20.setCell ⟨go16, (((rd_T32 l1 x8_3).f1) : Int).toNat, none⟩ (.int .i64 ji15))) ?hg ?ho ?hn ?hr ?_; (case ho => rfl); (case hg => rfl); (case hn => rfl); (case hr => exact qq16); intro w22 hw; have hg : w20.grownBy w22 (some go16) := (by rw [hw]; exact HP21.2); have hp_ : Kd.R (Kd.int .i64) 3 w22 w.heap.size (fun _ => True) (.slice (some ⟨go16, 0, none⟩) x5_3.length co18) y334 := (by rw [hw, Ny334.out]; exact HP21.1); clear HP21; have n0_ := Aside0.mk (hp_); have n1_ := Aside0.mk ((qq62 : Below w.heap.size w w22)); clear HO_5; clear HB; have HO_5 := n0_; have HB := n1_; clear n0_ n1_; clear hg hw hp_)); try go_wp2_with (first | ((with_reducible refine gate_store (t := 3) (p := 55) rfl ?_); (try ((first | (generalize hq_ : World.drewN wr _ = wr) | (rw [drewN_self wr]; generalize hq_ : World.drewN wr _ = wr)); have n0_ := Aside0.mk (Kd.R_at hq_ HO_5.out); have n1_ := Aside0.mk (below_at hq_ HB.out); clear hq_ HO_5 HB; have HO_5 := n0_; have HB := n1_; clear n0_ n1_; (try (have HP19 := Kd.R_putg HO_5.out (((rd_T32 l1 x8_3).f0) : Int) ji15))); (try (obtain ⟨hx16_0, hf16_0⟩ := Kd.R_celln 0 HO_5.out (((rd_T32 l1 x8_3).f0) : Int) (of_eq_true p16) (of_eq_true q16)))); refine store_event (t := 3) (p := 55) (v := ?vo_w20) (w1 := (wr.setCell ⟨go16, (((rd_T32 l1 x8_3).f0) : Int).toNat, none⟩ (.int .i64 ji15))) ?hg ?ho ?hn ?hr ?_; (case ho => rfl); (case hg => rfl); (case hn => rfl); (case hr => exact qq16); intro w20 hw; have hg : wr.grownBy w20 (some go16) := (by rw [hw]; exact HP19.2); have hp_ : Kd.R (Kd.int .i64) 3 w20 w.heap.size (fun _ => True) (.slice (some ⟨go16, 0, none⟩) x5_3.length co18) y332 := (by rw [hw, Ny332.out]; exact HP19.1); clear HP19; have n0_ := Aside0.mk (hp_); have n1_ := Aside0.mk ((qq62 : Below w.heap.size w w20)); clear HO_5; clear HB; have HO_5 := n0_; have HB := n1_; clear n0_ n1_; clear hg hw hp_; have p333 : 0 ≤ (x8_3 : Int) := of_decide_eq_true qq3; have q333 : x8_3 < (l1.length : Int) := of_decide_eq_true qq3; obtain ⟨ad333, e333, hx333_0, hx333_1, hx333_2, hx333_3⟩ := at_T32 HR1.out x8_3 p333 q333; obtain rfl : ad327 = ad333 := (by injection e333); replace hx333_0 := (HB.out.cell (World.block_lt_of_cell? w _ hx333_0)).trans hx333_0; replace hx333_1 := (HB.out.cell (World.block_lt_of_cell? w _ hx333_1)).trans hx333_1; replace hx333_2 := (HB.out.cell (World.block_lt_of_cell? w _ hx333_2)).trans hx333_2; replace hx333_3 := (HB.out.cell (World.block_lt_of_cell? w _ hx333_3)).trans hx333_3; replace p333 := eq_true p333; replace q333 := eq_true q333; have p17 : 0 ≤ (((rd_T32 l1 x8_3).f1) : Int) := of_decide_eq_true qq3; have q17 : (((rd_T32 l1 x8_3).f1) : Int) < ((x5_3.length : Int) : Int) := of_decide_eq_true qq3; obtain ⟨hx17_0, hf17_0⟩ := Kd.R_celln 0 HO_5.out (((rd_T32 l1 x8_3).f1) : Int) p17 q17; replace p17 := eq_true p17; replace q17 := eq_true q17; obtain ⟨hy21_, hz21_⟩ := Kd.R_celln 0 HO_5.out (((rd_T32 l1 x8_3).f1) : Int) (of_decide_eq_true qq3) (of_decide_eq_true qq3); have HP21 := Kd.R_putg HO_5.out (((rd_T32 l1 x8_3).f1) : Int) ji15) | ((with_reducible refine gate_store (t := 3) (p := 63) rfl ?_); (try (rw [drewN_self w20]; generalize hq_ : World.drewN w20 _ = w20; have n0_ := Aside0.mk (Kd.R_at hq_ HO_5.out); have n1_ := Aside0.mk (below_at hq_ HB.out); clear hq_ HO_5 HB; have HO_5 := n0_; have HB := n1_; clear n0_ n1_; (try (obtain ⟨hy21_, hz21_⟩ := Kd.R_celln 0 HO_5.out (((rd_T32 l1 x8_3).f1) : Int) (of_decide_eq_true qq3) (of_decide_eq_true qq3))); (try (have HP21 := Kd.R_putg HO_5.out (((rd_T32 l1 x8_3).f1) : Int) ji15)))); refine store_event (t := 3) (p := 63) (v := ?vo_w22) (w1 := (w20.setCell ⟨go16, (((rd_T32 l1 x8_3).f1) : Int).toNat, none⟩ (.int .i64 ji15))) ?hg ?ho ?hn ?hr ?_; (case ho => rfl); (case hg => rfl); (case hn => rfl); (case hr => exact qq16); intro w22 hw; have hg : w20.grownBy w22 (some go16) := (by rw [hw]; exact HP21.2); have hp_ : Kd.R (Kd.int .i64) 3 w22 w.heap.size (fun _ => True) (.slice (some ⟨go16, 0, none⟩) x5_3.length co18) y334 := (by rw [hw, Ny334.out]; exact HP21.1); clear HP21; have n0_ := Aside0.mk (hp_); have n1_ := Aside0.mk ((qq62 : Below w.heap.size w w22)); clear HO_5; clear HB; have HO_5 := n0_; have HB := n1_; clear n0_ n1_; clear hg hw hp_)))
                              go_roundg k3
                              case measure => have := HK1.out; have := HK2.out; have := HK3.out; omega
                              case rel => exact ⟨(y334), (wrap64 (x8_3 + 1)), qq13, H', ⟨qq54 HK1.out HK2.out HK3.out⟩, ⟨qq2 HO_5.out⟩, ⟨qq1⟩⟩
                            · rw [if_neg c14] at H
                              exact absurd H (by simp)
                          · rw [if_neg c13] at H
                            exact absurd H (by simp)
                        · rw [if_neg c12] at H
                          exact absurd H (by simp)
                      · rw [if_neg c11] at H
                        exact absurd H (by simp)
                    · rw [if_neg c10] at H
                      exact absurd H (by simp)
                  · rw [if_neg c9] at H
                    have c9b0 : decide (x8_3 < (l1.length : Int)) = false := decide_eq_false c9
                    clear c9
                    have H' := Aside0.mk H
                    clear H
                    go_wp2
                    repeat (go_quiet (fail); try go_wp2)
                    go_roundg k3
                    case measure => have := HK1.out; have := HK2.out; have := HK3.out; omega
                    case rel => exact ⟨(x5_3), (wrap64 (x7_2 + 1)), qq13, H', ⟨qq54 HK1.out HK2.out HK3.out⟩, ⟨qq2 HO_5.out⟩, ⟨qq1⟩⟩
            · rw [if_neg c8] at H
              have c8b0 : decide (x7_2 < a0) = false := decide_eq_false c8
              clear c8
              obtain rfl := Option.some.inj H
              go_wp2
              repeat (go_quiet (fail); try go_wp2)
              go_ret
              exact ⟨_, qq11, qq2 HO_5.out, qq1⟩

end Go.Proofs.Ytmcfhmflncghiaa.Q
namespace Go.Proofs.Ytmcfhmflncghiaa.Q
open Go.RowKit Go.Proofs.YtmcfhmflncghiaaW.PrintWords Go.Proofs.YtmcfhmflncghiaaW.PrintLast Go.Proofs.YtmcfhmflncghiaaW.PrintMore
attribute [local go_sem] max2_int min2_int max_two min_two max_three min_three max_four min_four
set_option linter.unusedVariables false
set_option linter.unusedSimpArgs false

/-! ### spec_NetLinked: function 52 -/
def spec_NetLinked.f (k : Nat) (a0 : Int) (l1 : List (S32)) : Option (List Int) := (spec_NetValid.f k a0 l1).bind fun t335 => (if t335 = true then ((spec_l11Linked.f k a0 l1).bind fun t336 => (some t336)) else (some (([] : List Int))))
set_option maxHeartbeats 8000000 in
set_option maxRecDepth 100000 in
theorem spec_NetLinked.calls (k : Nat) (a0 : Int) (A1 : Option Addr) (c1 : Nat) (l1 : List (S32)) (r : List Int) (w : World) (hr1 : Kd.C k32 w A1 l1.length l1) (hc1 : l1.length ≤ c1) (h : spec_NetLinked.f k a0 l1 = some r) :
    Calls Try.prog 52 #[.int .i64 a0, .slice A1 l1.length c1] w fun e w' => ∃ v0_ : Value, e = .returned (v0_) ∧ Kd.R (Kd.int .i64) 3 w' w.heap.size (fun _ => True) v0_ r ∧ Below w.heap.size w w' := by
  have HR1 := Aside0.mk hr1
  have HC1 := Aside0.mk hc1
  clear hr1 hc1
  have HB := Aside0.mk (Below.refl w.heap.size w)
  have H : ((spec_NetValid.f k a0 l1).bind fun t335 => (if t335 = true then ((spec_l11Linked.f k a0 l1).bind fun t336 => (some t336)) else (some (([] : List Int))))) = some r := h
  clear h
  replace H := Option.bind_eq_some_iff.mp H
  obtain ⟨t335, A30, H⟩ := H
  replace H : (if t335 = true then ((spec_l11Linked.f k a0 l1).bind fun t336 => (some t336)) else (some (([] : List Int)))) = some r := H
  have A3 := Aside0.mk A30
  clear A30
  by_cases c4 : t335 = true
  · subst c4
    have H1 : ((spec_l11Linked.f k a0 l1).bind fun t336 => (some t336)) = some r := by rw [if_pos rfl] at H; exact H
    clear H
    have H := H1
    clear H1
    replace H := Option.bind_eq_some_iff.mp H
    obtain ⟨t336, A50, H⟩ := H
    replace H : (some t336) = some r := H
    have A5 := Aside0.mk A50
    clear A50
    obtain rfl := Option.some.inj H
    go_enter Try.func52, Try.ntmps52
    go_wp2_with (first | ((with_reducible refine gate_callee (f := 45) rfl ?_); refine goesL_ (some 7) rfl rfl Try.func45 (by kernel_rfl) rfl #[.int .i64 a0, .slice A1 l1.length c1] rfl qq5 ?_; (with_reducible refine (spec_NetValid.calls k a0 _ _ l1 true _ ?side1 ?side2 A3.out).mono ?_); (case side1 => exact qq15 HR1.out); (case side2 => exact HC1.out); rintro e w6 ⟨rfl, hb⟩; refine ⟨_, rfl, ?_⟩; have n0_ := Aside0.mk (below_step qq1 hb); clear HB; have HB := n0_; clear n0_; (try clear hb); (try clear hb2); (try clear hk); (try clear hi)) | ((with_reducible refine gate_callee (f := 65) rfl ?_); refine goesL_ (some 12) rfl rfl Try.func65 (by kernel_rfl) rfl #[.int .i64 a0, .slice A1 l1.length c1] rfl qq5 ?_; (with_reducible refine (spec_l11Linked.calls k a0 _ _ l1 t336 _ ?side1 ?side2 A5.out).mono ?_); (case side1 => exact qq35); (case side2 => exact HC1.out); rintro e w7 ⟨v337, rfl, ho0, hb⟩; refine ⟨_, rfl, ?_⟩; have n0_ := Aside0.mk (Kd.R_lower ho0 (below_size qq1)); have n1_ := Aside0.mk (below_step qq1 hb); clear HB; have HO338 := n0_; have HB := n1_; clear n0_ n1_; (try clear hb); (try clear hb2); (try clear hk); (try clear hi); (try clear ho0)))
    go_ret
    exact ⟨_, qq11, qq2 HO338.out, qq1⟩
  · replace c4 := Bool.eq_false_iff.mpr c4
    subst c4
    have H1 : (some (([] : List Int))) = some r := by rw [if_neg (show ¬ (false = true) by decide)] at H; exact H
    clear H
    have H := H1
    clear H1
    obtain ⟨y339, hy339⟩ : ∃ y_ : List Int, y_ = (([] : List Int)) := ⟨_, rfl⟩
    replace H : (some y339) = some r := by first | (rw [hy339]; with_reducible exact H) | (have H2_ := (Option.bind_some _ _).symm.trans H; rw [hy339]; with_reducible exact H2_) | (have H2_ := (Option.bind_some _ _).symm.trans H; with_reducible exact H2_) | with_reducible exact H | (rw [hy339]; exact H) | exact H
    have Ny339 := Aside0.mk hy339
    clear hy339
    obtain rfl := Option.some.inj H
    go_enter Try.func52, Try.ntmps52
    go_wp2_with (first | ((with_reducible refine gate_callee (f := 45) rfl ?_); refine goesL_ (some 7) rfl rfl Try.func45 (by kernel_rfl) rfl #[.int .i64 a0, .slice A1 l1.length c1] rfl qq5 ?_; (with_reducible refine (spec_NetValid.calls k a0 _ _ l1 false _ ?side1 ?side2 A3.out).mono ?_); (case side1 => exact qq15 HR1.out); (case side2 => exact HC1.out); rintro e w8 ⟨rfl, hb⟩; refine ⟨_, rfl, ?_⟩; have n0_ := Aside0.mk (below_step qq1 hb); clear HB; have HB := n0_; clear n0_; (try clear hb); (try clear hb2); (try clear hk); (try clear hi)) | ((with_reducible refine gate_dst (N := 9) rfl ?_); refine Kd.R_lit (Kd.int .i64) _ 3 ?hg (N := 9) ?hd (xs := ([] : List Int)) (inner := []) (ok := fun _ => True) (okp := fun _ => True) ?hr ?hp (fun _ hk => hk) trivial (Below.refl _ _) (Nat.le_refl _) (by simp) ?_; (case hd => rfl); (case hg => rfl); (case hr => exact qq16); (case hp => exact (Reps.none _ _)); intro v340 w9 ho10 hb hg_ hnew_; clear hg_ hnew_; (first | rw [← Ny339.out] at ho10 | (simp only [Int.reduceToNat] at ho10; rw [← Ny339.out] at ho10)); have n0_ := Aside0.mk (Kd.R_lower ho10 (below_size qq1)); have n1_ := Aside0.mk (below_step qq1 hb); clear HB; have HO341 := n0_; have HB := n1_; clear n0_ n1_; clear hb ho10))
    go_ret
    exact ⟨_, qq11, qq2 HO341.out, qq1⟩

end Go.Proofs.Ytmcfhmflncghiaa.Q
namespace Go.Proofs.Ytmcfhmflncghiaa.Q
open Go.RowKit Go.Proofs.YtmcfhmflncghiaaW.PrintWords Go.Proofs.YtmcfhmflncghiaaW.PrintLast Go.Proofs.YtmcfhmflncghiaaW.PrintMore
attribute [local go_sem] max2_int min2_int max_two min_two max_three min_three max_four min_four
set_option linter.unusedVariables false
set_option linter.unusedSimpArgs false

/-! ### spec_NetWhole: function 32 -/
def spec_NetWhole.l0 : Nat → List Int → Int → Option (Bool)
  | 0, _, _ => none
  | k + 1, x5, x6 => if x6 < (x5.length : Int) then (if 0 ≤ x6 then (if (rd x5 x6) = 0 then (spec_NetWhole.l0 k x5 (wrap64 (x6 + 1))) else (some false)) else (none)) else (some (decide ((x5.length : Int) > 0)))
def spec_NetWhole.f (k : Nat) (a0 : Int) (l1 : List (S32)) : Option (Bool) := (spec_NetLinked.f k a0 l1).bind fun t342 => (spec_NetWhole.l0 k t342 0)
set_option maxHeartbeats 8000000 in
set_option maxRecDepth 100000 in
theorem spec_NetWhole.calls (k : Nat) (a0 : Int) (A1 : Option Addr) (c1 : Nat) (l1 : List (S32)) (r : Bool) (w : World) (hr1 : Kd.C k32 w A1 l1.length l1) (hc1 : l1.length ≤ c1) (h : spec_NetWhole.f k a0 l1 = some r) :
    Calls Try.prog 32 #[.int .i64 a0, .slice A1 l1.length c1] w fun e w' => e = .returned (.bool r) ∧ Below w.heap.size w w' := by
  have HR1 := Aside0.mk hr1
  have HC1 := Aside0.mk hc1
  clear hr1 hc1
  have HB := Aside0.mk (Below.refl w.heap.size w)
  have H : ((spec_NetLinked.f k a0 l1).bind fun t342 => (spec_NetWhole.l0 k t342 0)) = some r := h
  clear h
  replace H := Option.bind_eq_some_iff.mp H
  obtain ⟨t342, A30, H⟩ := H
  replace H : (spec_NetWhole.l0 k t342 0) = some r := H
  have A3 := Aside0.mk A30
  clear A30
  have H' := Aside0.mk H
  clear H
  go_enter Try.func32, Try.ntmps32
  go_wp2_with (first | ((with_reducible refine gate_callee (f := 52) rfl ?_); refine goesL_ (some 9) rfl rfl Try.func52 (by kernel_rfl) rfl #[.int .i64 a0, .slice A1 l1.length c1] rfl qq5 ?_; (with_reducible refine (spec_NetLinked.calls k a0 _ _ l1 t342 _ ?side1 ?side2 A3.out).mono ?_); (case side1 => exact qq15 HR1.out); (case side2 => exact HC1.out); rintro e w4 ⟨v343, rfl, ho0, hb⟩; refine ⟨_, rfl, ?_⟩; have n0_ := Aside0.mk (Kd.R_lower ho0 (below_size qq1)); have n1_ := Aside0.mk (below_step qq1 hb); clear HB; have HO344 := n0_; have HB := n1_; clear n0_ n1_; (try clear hb); (try clear hb2); (try clear hk); (try clear hi); (try clear ho0)))
  go_loopg [6] k (fun kq v6 w' => ∃ (x6_1 : Int), v6 = .int .i64 x6_1 ∧ Aside0 (spec_NetWhole.l0 kq t342 x6_1 = some r) ∧ Aside0 (kq ≤ k) ∧ Aside0 (Kd.R (Kd.int .i64) 3 w' w.heap.size (fun _ => True) v343 t342) ∧ Aside0 (Below w.heap.size w w'))
  case atStart => exact ⟨(0), qq13, H', ⟨Nat.le_refl _⟩, ⟨qq2 HO344.out⟩, ⟨qq1⟩⟩
  case round =>
    clear H'
    try clear c1
    try clear p2
    try clear c3
    obtain ⟨x6_1, rfl, HA, HK1, HO_5, HB⟩ := hrel
    cases gk with
    | zero => exact absurd HA.out (by simp [spec_NetWhole.l0])
    | succ k1 =>
      have H := HA.out
      clear HA
      simp only [spec_NetWhole.l0] at H
      by_cases c5 : x6_1 < (t342.length : Int)
      · rw [if_pos c5] at H
        have c5b0 : decide (x6_1 < (t342.length : Int)) = true := decide_eq_true c5
        clear c5
        by_cases c6 : 0 ≤ x6_1
        · rw [if_pos c6] at H
          have c6b0 : decide (0 ≤ x6_1) = true := decide_eq_true c6
          clear c6
          by_cases c7 : (rd t342 x6_1) = 0
          · rw [if_pos c7] at H
            have c7b0 : ((rd t342 x6_1) == 0) = true := beq_iff_eq.mpr c7
            have c7b1 : ((rd t342 x6_1) != 0) = false := bne_eq_false_iff_eq.mpr c7
            clear c7
            have H' := Aside0.mk H
            clear H
            obtain ⟨Ao8, co8, eo8⟩ := Kd.R_slice HO_5.out
            subst eo8
            have p345 : 0 ≤ (x6_1 : Int) := of_decide_eq_true qq3
            have q345 : x6_1 < (t342.length : Int) := of_decide_eq_true qq3
            obtain ⟨ad345, e345, hx345_0⟩ := Kd.at_int (Kd.R_reads' HO_5.out).2.2 x6_1 p345 q345
            cases e345
            replace p345 := eq_true p345
            replace q345 := eq_true q345
            go_wp2
            go_roundg k1
            case measure => have := HK1.out; omega
            case rel => exact ⟨(wrap64 (x6_1 + 1)), qq13, H', ⟨by have := HK1.out; omega⟩, ⟨qq2 HO_5.out⟩, ⟨qq1⟩⟩
          · rw [if_neg c7] at H
            have c7b0 : ((rd t342 x6_1) == 0) = false := beq_eq_false_iff_ne.mpr c7
            have c7b1 : ((rd t342 x6_1) != 0) = true := bne_iff_ne.mpr c7
            obtain rfl := Option.some.inj H
            obtain ⟨Ao9, co9, eo9⟩ := Kd.R_slice HO_5.out
            subst eo9
            have p345 : 0 ≤ (x6_1 : Int) := of_decide_eq_true qq3
            have q345 : x6_1 < (t342.length : Int) := of_decide_eq_true qq3
            obtain ⟨ad345, e345, hx345_0⟩ := Kd.at_int (Kd.R_reads' HO_5.out).2.2 x6_1 p345 q345
            cases e345
            replace p345 := eq_true p345
            replace q345 := eq_true q345
            go_wp2
            go_ret
            exact ⟨qq11, qq1⟩
        · rw [if_neg c6] at H
          exact absurd H (by simp)
      · rw [if_neg c5] at H
        have c5b0 : decide (x6_1 < (t342.length : Int)) = false := decide_eq_false c5
        clear c5
        obtain rfl := Option.some.inj H
        obtain ⟨Ao10, co10, eo10⟩ := Kd.R_slice HO_5.out
        subst eo10
        go_wp2
        go_ret
        exact ⟨qq11, qq1⟩

end Go.Proofs.Ytmcfhmflncghiaa.Q
namespace Go.Proofs.Ytmcfhmflncghiaa.Q
open Go.RowKit Go.Proofs.YtmcfhmflncghiaaW.PrintWords Go.Proofs.YtmcfhmflncghiaaW.PrintLast Go.Proofs.YtmcfhmflncghiaaW.PrintMore
attribute [local go_sem] max2_int min2_int max_two min_two max_three min_three max_four min_four
set_option linter.unusedVariables false
set_option linter.unusedSimpArgs false

/-! ### spec_TreeFirst: function 53 -/
def spec_TreeFirst.l0 : Nat → Int → List (S32) → List Int → Int → Option (List Int × Bool)
  | 0, _, _, _, _ => none
  | k + 1, x0, x1, x6, x7 => if x7 < (x1.length : Int) then ((spec_l12Some.f k x1 x6).bind fun t358 => ((spec_l11Linked.f k x0 t358).bind fun t361 => (if 0 ≤ x7 then (if 0 ≤ ((rd_T32 x1 x7).f0) then (if ((rd_T32 x1 x7).f0) < (t361.length : Int) then (if 0 ≤ ((rd_T32 x1 x7).f1) then (if ((rd_T32 x1 x7).f1) < (t361.length : Int) then (if (rd t361 ((rd_T32 x1 x7).f0)) = (rd t361 ((rd_T32 x1 x7).f1)) then (spec_TreeFirst.l0 k x0 x1 x6 (wrap64 (x7 + 1))) else (if x6.length < 17592186044416 then (spec_TreeFirst.l0 k x0 x1 (x6 ++ [x7]) (wrap64 (x7 + 1))) else (none))) else (none)) else (none)) else (none)) else (none)) else (none)))) else (some (x6, true))
def spec_TreeFirst.f (k : Nat) (a0 : Int) (l1 : List (S32)) : Option (List Int × Bool) := (some (([] : List Int) : List Int)).bind fun y354 => ((spec_NetWhole.f k a0 l1).bind fun t357 => (if t357 = true then (spec_TreeFirst.l0 k a0 l1 y354 0) else (some (y354, false))))
set_option maxHeartbeats 8000000 in
set_option maxRecDepth 100000 in
theorem spec_TreeFirst.calls (k : Nat) (a0 : Int) (A1 : Option Addr) (c1 : Nat) (l1 : List (S32)) (r1 : List Int) (r2 : Bool) (w : World) (hr1 : Kd.C k32 w A1 l1.length l1) (hc1 : l1.length ≤ c1) (h : spec_TreeFirst.f k a0 l1 = some (r1, r2)) :
    Calls Try.prog 53 #[.int .i64 a0, .slice A1 l1.length c1] w fun e w' => ∃ v0_ : Value, e = .returned (.tuple #[v0_, .bool r2]) ∧ Kd.R (Kd.int .i64) 3 w' w.heap.size (fun _ => True) v0_ r1 ∧ Below w.heap.size w w' := by
  have HR1 := Aside0.mk hr1
  have HC1 := Aside0.mk hc1
  clear hr1 hc1
  have HB := Aside0.mk (Below.refl w.heap.size w)
  have H : ((some (([] : List Int) : List Int)).bind fun y354 => ((spec_NetWhole.f k a0 l1).bind fun t357 => (if t357 = true then (spec_TreeFirst.l0 k a0 l1 y354 0) else (some (y354, false))))) = some (r1, r2) := h
  clear h
  obtain ⟨y354, hy354⟩ : ∃ y_ : List Int, y_ = (([] : List Int)) := ⟨_, rfl⟩
  replace H : ((spec_NetWhole.f k a0 l1).bind fun t357 => (if t357 = true then (spec_TreeFirst.l0 k a0 l1 y354 0) else (some (y354, false)))) = some (r1, r2) := by first | (rw [hy354]; with_reducible exact H) | (have H2_ := (Option.bind_some _ _).symm.trans H; rw [hy354]; with_reducible exact H2_) | (have H2_ := (Option.bind_some _ _).symm.trans H; with_reducible exact H2_) | with_reducible exact H | (rw [hy354]; exact H) | exact H
  have Ny354 := Aside0.mk hy354
  clear hy354
  replace H := Option.bind_eq_some_iff.mp H
  obtain ⟨t357, A30, H⟩ := H
  replace H : (if t357 = true then (spec_TreeFirst.l0 k a0 l1 y354 0) else (some (y354, false))) = some (r1, r2) := H
  have A3 := Aside0.mk A30
  clear A30
  by_cases c4 : t357 = true
  · subst c4
    have H1 : (spec_TreeFirst.l0 k a0 l1 y354 0) = some (r1, r2) := by rw [if_pos rfl] at H; exact H
    clear H
    have H := H1
    clear H1
    have H' := Aside0.mk H
    clear H
    go_enter Try.func53, Try.ntmps53
    go_wp2_with (first | ((with_reducible refine gate_dst (N := 9) rfl ?_); refine Kd.R_lit (Kd.int .i64) _ 3 ?hg (N := 9) ?hd (xs := ([] : List Int)) (inner := []) (ok := fun _ => True) (okp := fun _ => True) ?hr ?hp (fun _ hk => hk) trivial (Below.refl _ _) (Nat.le_refl _) (by simp) ?_; (case hd => rfl); (case hg => rfl); (case hr => exact qq16); (case hp => exact (Reps.none _ _)); intro v355 w5 ho6 hb hg_ hnew_; clear hg_ hnew_; (first | rw [← Ny354.out] at ho6 | (simp only [Int.reduceToNat] at ho6; rw [← Ny354.out] at ho6)); have n0_ := Aside0.mk (Kd.R_lower ho6 (below_size qq1)); have n1_ := Aside0.mk (below_step qq1 hb); clear HB; have HO356 := n0_; have HB := n1_; clear n0_ n1_; clear hb ho6) | (go_at_call 32; (with_reducible refine (spec_NetWhole.calls k a0 _ _ l1 true _ ?side1 ?side2 A3.out).mono ?_); (case side1 => exact qq35); (case side2 => exact HC1.out); rintro e w7 ⟨rfl, hb⟩; have n0_ := Aside0.mk (Kd.R_below (qq2 HO356.out) hb); have n1_ := Aside0.mk (below_step qq1 hb); clear HO356; clear HB; have HO356 := n0_; have HB := n1_; clear n0_ n1_; (try clear hb); (try clear hb2); (try clear hk); (try clear hi)))
    repeat (go_quiet (first | ((with_reducible refine gate_dst (N := 9) rfl ?_); refine Kd.R_lit (Kd.int .i64) _ 3 ?hg (N := 9) ?hd (xs := ([] : List Int)) (inner := []) (ok := fun _ => True) (okp := fun _ => True) ?hr ?hp (fun _ hk => hk) trivial (Below.refl _ _) (Nat.le_refl _) (by simp) ?_; (case hd => rfl); (case hg => rfl); (case hr => exact qq16); (case hp => exact (Reps.none _ _)); intro v355 w5 ho6 hb hg_ hnew_; clear hg_ hnew_; (first | rw [← Ny354.out] at ho6 | (simp only [Int.reduceToNat] at ho6; rw [← Ny354.out] at ho6)); have n0_ := Aside0.mk (Kd.R_lower ho6 (below_size qq1)); have n1_ := Aside0.mk (below_step qq1 hb); clear HB; have HO356 := n0_; have HB := n1_; clear n0_ n1_; clear hb ho6) | (go_at_call 32; (with_reducible refine (spec_NetWhole.calls k a0 _ _ l1 true _ ?side1 ?side2 A3.out).mono ?_); (case side1 => exact qq35); (case side2 => exact HC1.out); rintro e w7 ⟨rfl, hb⟩; have n0_ := Aside0.mk (Kd.R_below (qq2 HO356.out) hb); have n1_ := Aside0.mk (below_step qq1 hb); clear HO356; clear HB; have HO356 := n0_; have HB := n1_; clear n0_ n1_; (try clear hb); (try clear hb2); (try clear hk); (try clear hi))); try go_wp2_with (first | ((with_reducible refine gate_dst (N := 9) rfl ?_); refine Kd.R_lit (Kd.int .i64) _ 3 ?hg (N := 9) ?hd (xs := ([] : List Int)) (inner := []) (ok := fun _ => True) (okp := fun _ => True) ?hr ?hp (fun _ hk => hk) trivial (Below.refl _ _) (Nat.le_refl _) (by simp) ?_; (case hd => rfl); (case hg => rfl); (case hr => exact qq16); (case hp => exact (Reps.none _ _)); intro v355 w5 ho6 hb hg_ hnew_; clear hg_ hnew_; (first | rw [← Ny354.out] at ho6 | (simp only [Int.reduceToNat] at ho6; rw [← Ny354.out] at ho6)); have n0_ := Aside0.mk (Kd.R_lower ho6 (below_size qq1)); have n1_ := Aside0.mk (below_step qq1 hb); clear HB; have HO356 := n0_; have HB := n1_; clear n0_ n1_; clear hb ho6) | (go_at_call 32; (with_reducible refine (spec_NetWhole.calls k a0 _ _ l1 true _ ?side1 ?side2 A3.out).mono ?_); (case side1 => exact qq35); (case side2 => exact HC1.out); rintro e w7 ⟨rfl, hb⟩; have n0_ := Aside0.mk (Kd.R_below (qq2 HO356.out) hb); have n1_ := Aside0.mk (below_step qq1 hb); clear HO356; clear HB; have HO356 := n0_; have HB := n1_; clear n0_ n1_; (try clear hb); (try clear hb2); (try clear hk); (try clear hi))))
    go_loopg [6, 7] k (fun kq v6 v7 w' => ∃ (x6_1 : List Int) (x7_1 : Int), v7 = .int .i64 x7_1 ∧ Aside0 (spec_TreeFirst.l0 kq a0 l1 x6_1 x7_1 = some (r1, r2)) ∧ Aside0 (kq ≤ k) ∧ Aside0 (Kd.R (Kd.int .i64) 3 w' w.heap.size (fun _ => True) v6 x6_1) ∧ Aside0 (Below w.heap.size w w'))
    case atStart => exact ⟨(y354), (0), qq13, H', ⟨Nat.le_refl _⟩, ⟨qq2 HO356.out⟩, ⟨qq1⟩⟩
    case round =>
      clear H'
      try clear c1
      try clear p2
      try clear c4
      try clear c5
      obtain ⟨x6_1, x7_1, rfl, HA, HK1, HO_6, HB⟩ := hrel
      cases gk with
      | zero => exact absurd HA.out (by simp [spec_TreeFirst.l0])
      | succ k1 =>
        have H := HA.out
        clear HA
        simp only [spec_TreeFirst.l0] at H
        by_cases c8 : x7_1 < (l1.length : Int)
        · rw [if_pos c8] at H
          have c8b0 : decide (x7_1 < (l1.length : Int)) = true := decide_eq_true c8
          clear c8
          replace H := Option.bind_eq_some_iff.mp H
          obtain ⟨t358, A90, H⟩ := H
          replace H : ((spec_l11Linked.f k1 a0 t358).bind fun t361 => (if 0 ≤ x7_1 then (if 0 ≤ ((rd_T32 l1 x7_1).f0) then (if ((rd_T32 l1 x7_1).f0) < (t361.length : Int) then (if 0 ≤ ((rd_T32 l1 x7_1).f1) then (if ((rd_T32 l1 x7_1).f1) < (t361.length : Int) then (if (rd t361 ((rd_T32 l1 x7_1).f0)) = (rd t361 ((rd_T32 l1 x7_1).f1)) then (spec_TreeFirst.l0 k1 a0 l1 x6_1 (wrap64 (x7_1 + 1))) else (if x6_1.length < 17592186044416 then (spec_TreeFirst.l0 k1 a0 l1 (x6_1 ++ [x7_1]) (wrap64 (x7_1 + 1))) else (none))) else (none)) else (none)) else (none)) else (none)) else (none))) = some (r1, r2) := H
          have A9 := Aside0.mk A90
          clear A90
          replace H := Option.bind_eq_some_iff.mp H
          obtain ⟨t361, A100, H⟩ := H
          replace H : (if 0 ≤ x7_1 then (if 0 ≤ ((rd_T32 l1 x7_1).f0) then (if ((rd_T32 l1 x7_1).f0) < (t361.length : Int) then (if 0 ≤ ((rd_T32 l1 x7_1).f1) then (if ((rd_T32 l1 x7_1).f1) < (t361.length : Int) then (if (rd t361 ((rd_T32 l1 x7_1).f0)) = (rd t361 ((rd_T32 l1 x7_1).f1)) then (spec_TreeFirst.l0 k1 a0 l1 x6_1 (wrap64 (x7_1 + 1))) else (if x6_1.length < 17592186044416 then (spec_TreeFirst.l0 k1 a0 l1 (x6_1 ++ [x7_1]) (wrap64 (x7_1 + 1))) else (none))) else (none)) else (none)) else (none)) else (none)) else (none)) = some (r1, r2) := H
          have A10 := Aside0.mk A100
          clear A100
          by_cases c11 : 0 ≤ x7_1
          · rw [if_pos c11] at H
            have c11b0 : decide (0 ≤ x7_1) = true := decide_eq_true c11
            clear c11
            by_cases c12 : 0 ≤ ((rd_T32 l1 x7_1).f0)
            · rw [if_pos c12] at H
              have c12b0 : decide (0 ≤ ((rd_T32 l1 x7_1).f0)) = true := decide_eq_true c12
              clear c12
              by_cases c13 : ((rd_T32 l1 x7_1).f0) < (t361.length : Int)
              · rw [if_pos c13] at H
                have c13b0 : decide (((rd_T32 l1 x7_1).f0) < (t361.length : Int)) = true := decide_eq_true c13
                clear c13
                by_cases c14 : 0 ≤ ((rd_T32 l1 x7_1).f1)
                · rw [if_pos c14] at H
                  have c14b0 : decide (0 ≤ ((rd_T32 l1 x7_1).f1)) = true := decide_eq_true c14
                  clear c14
                  by_cases c15 : ((rd_T32 l1 x7_1).f1) < (t361.length : Int)
                  · rw [if_pos c15] at H
                    have c15b0 : decide (((rd_T32 l1 x7_1).f1) < (t361.length : Int)) = true := decide_eq_true c15
                    clear c15
                    by_cases c16 : (rd t361 ((rd_T32 l1 x7_1).f0)) = (rd t361 ((rd_T32 l1 x7_1).f1))
                    · rw [if_pos c16] at H
                      have c16b0 : ((rd t361 ((rd_T32 l1 x7_1).f0)) == (rd t361 ((rd_T32 l1 x7_1).f1))) = true := beq_iff_eq.mpr c16
                      have c16b1 : ((rd t361 ((rd_T32 l1 x7_1).f0)) != (rd t361 ((rd_T32 l1 x7_1).f1))) = false := bne_eq_false_iff_eq.mpr c16
                      clear c16
                      have H' := Aside0.mk H
                      clear H
                      obtain ⟨Ao17, co17, eo17⟩ := Kd.R_slice HO_6.out
                      subst eo17
                      go_wp2_with (first | (go_at_call 66; (with_reducible refine (spec_l12Some.calls k1 _ _ l1 _ _ x6_1 t358 _ ?side1 ?side2 ?side3 ?side4 A9.out).mono ?_); (case side1 => exact qq35); (case side2 => exact HC1.out); (case side3 => exact qq12 HO_6.out); (case side4 => exact qq50 HO_6.out); rintro e w18 ⟨v359, rfl, ho0, hb⟩; have n0_ := Aside0.mk (Kd.R_below (qq2 HO_6.out) hb); have n1_ := Aside0.mk (Kd.R_lower ho0 (below_size qq1)); have n2_ := Aside0.mk (below_step qq1 hb); clear HO_6; clear HB; have HO_6 := n0_; have HO360 := n1_; have HB := n2_; clear n0_ n1_ n2_; (try clear hb); (try clear hb2); (try clear hk); (try clear hi); (try clear ho0); obtain ⟨Ao19, co19, eo19⟩ := Kd.R_slice HO360.out; subst eo19) | (go_at_call 65; (with_reducible refine (spec_l11Linked.calls k1 a0 _ _ t358 t361 _ ?side1 ?side2 A10.out).mono ?_); (case side1 => exact qq12 HO360.out); (case side2 => exact qq50 HO360.out); rintro e w20 ⟨v362, rfl, ho0, hb⟩; have n0_ := Aside0.mk (Kd.R_elder' (qq2 HO_6.out) (Kd.R_base ho0) hb); have n1_ := Aside0.mk (Kd.R_below (qq2 HO360.out) hb); have n2_ := Aside0.mk (Kd.R_lower (Kd.R_new' ho0 (Kd.R_lt (qq2 HO_6.out))) (below_size qq1)); have n3_ := Aside0.mk (below_step qq1 hb); clear HO_6; clear HO360; clear HB; have HO_6 := n0_; have HO360 := n1_; have HO363 := n2_; have HB := n3_; clear n0_ n1_ n2_ n3_; (try clear hb); (try clear hb2); (try clear hk); (try clear hi); (try clear ho0); have p364 : 0 ≤ (x7_1 : Int) := of_decide_eq_true qq3; have q364 : x7_1 < (l1.length : Int) := of_decide_eq_true qq3; obtain ⟨ad364, e364, hx364_0, hx364_1, hx364_2, hx364_3⟩ := at_T32 HR1.out x7_1 p364 q364; cases e364; replace hx364_0 := (HB.out.cell (World.block_lt_of_cell? w _ hx364_0)).trans hx364_0; replace hx364_1 := (HB.out.cell (World.block_lt_of_cell? w _ hx364_1)).trans hx364_1; replace hx364_2 := (HB.out.cell (World.block_lt_of_cell? w _ hx364_2)).trans hx364_2; replace hx364_3 := (HB.out.cell (World.block_lt_of_cell? w _ hx364_3)).trans hx364_3; replace p364 := eq_true p364; replace q364 := eq_true q364; obtain ⟨Ao21, co21, eo21⟩ := Kd.R_slice HO363.out; subst eo21; have p365 : 0 ≤ (((rd_T32 l1 x7_1).f0) : Int) := of_decide_eq_true qq3; have q365 : ((rd_T32 l1 x7_1).f0) < (t361.length : Int) := of_decide_eq_true qq3; obtain ⟨ad365, e365, hx365_0⟩ := Kd.at_int (Kd.R_reads' HO363.out).2.2 ((rd_T32 l1 x7_1).f0) p365 q365; cases e365; replace p365 := eq_true p365; replace q365 := eq_true q365; have p366 : 0 ≤ (x7_1 : Int) := of_decide_eq_true qq3; have q366 : x7_1 < (l1.length : Int) := of_decide_eq_true qq3; obtain ⟨ad366, e366, hx366_0, hx366_1, hx366_2, hx366_3⟩ := at_T32 HR1.out x7_1 p366 q366; obtain rfl : ad364 = ad366 := (by injection e366); replace hx366_0 := (HB.out.cell (World.block_lt_of_cell? w _ hx366_0)).trans hx366_0; replace hx366_1 := (HB.out.cell (World.block_lt_of_cell? w _ hx366_1)).trans hx366_1; replace hx366_2 := (HB.out.cell (World.block_lt_of_cell? w _ hx366_2)).trans hx366_2; replace hx366_3 := (HB.out.cell (World.block_lt_of_cell? w _ hx366_3)).trans hx366_3; replace p366 := eq_true p366; replace q366 := eq_true q366; have p367 : 0 ≤ (((rd_T32 l1 x7_1).f1) : Int) := of_decide_eq_true qq3; have q367 : ((rd_T32 l1 x7_1).f1) < (t361.length : Int) := of_decide_eq_true qq3; obtain ⟨ad367, e367, hx367_0⟩ := Kd.at_int (Kd.R_reads' HO363.out).2.2 ((rd_T32 l1 x7_1).f1) p367 q367; obtain rfl : ad365 = ad367 := (by injection e367); replace p367 := eq_true p367; replace q367 := eq_true q367))
                      repeat (go_quiet (first | (go_at_call 66; (with_reducible refine (spec_l12Some.calls k1 _ _ l1 _ _ x6_1 t358 _ ?side1 ?side2 ?side3 ?side4 A9.out).mono ?_); (case side1 => exact qq35); (case side2 => exact HC1.out); (case side3 => exact qq12 HO_6.out); (case side4 => exact qq50 HO_6.out); rintro e w18 ⟨v359, rfl, ho0, hb⟩; have n0_ := Aside0.mk (Kd.R_below (qq2 HO_6.out) hb); have n1_ := Aside0.mk (Kd.R_lower ho0 (below_size qq1)); have n2_ := Aside0.mk (below_step qq1 hb); clear HO_6; clear HB; have HO_6 := n0_; have HO360 := n1_; have HB := n2_; clear n0_ n1_ n2_; (try clear hb); (try clear hb2); (try clear hk); (try clear hi); (try clear ho0); obtain ⟨Ao19, co19, eo19⟩ := Kd.R_slice HO360.out; subst eo19) | (go_at_call 65; (with_reducible refine (spec_l11Linked.calls k1 a0 _ _ t358 t361 _ ?side1 ?side2 A10.out).mono ?_); (case side1 => exact qq12 HO360.out); (case side2 => exact qq50 HO360.out); rintro e w20 ⟨v362, rfl, ho0, hb⟩; have n0_ := Aside0.mk (Kd.R_elder' (qq2 HO_6.out) (Kd.R_base ho0) hb); have n1_ := Aside0.mk (Kd.R_below (qq2 HO360.out) hb); have n2_ := Aside0.mk (Kd.R_lower (Kd.R_new' ho0 (Kd.R_lt (qq2 HO_6.out))) (below_size qq1)); have n3_ := Aside0.mk (below_step qq1 hb); clear HO_6; clear HO360; clear HB; have HO_6 := n0_; have HO360 := n1_; have HO363 := n2_; have HB := n3_; clear n0_ n1_ n2_ n3_; (try clear hb); (try clear hb2); (try clear hk); (try clear hi); (try clear ho0); have p364 : 0 ≤ (x7_1 : Int) := of_decide_eq_true qq3; have q364 : x7_1 < (l1.length : Int) := of_decide_eq_true qq3; obtain ⟨ad364, e364, hx364_0, hx364_1, hx364_2, hx364_3⟩ := at_T32 HR1.out x7_1 p364 q364; cases e364; replace hx364_0 := (HB.out.cell (World.block_lt_of_cell? w _ hx364_0)).trans hx364_0; replace hx364_1 := (HB.out.cell (World.block_lt_of_cell? w _ hx364_1)).trans hx364_1; replace hx364_2 := (HB.out.cell (World.block_lt_of_cell? w _ hx364_2)).trans hx364_2; replace hx364_3 := (HB.out.cell (World.block_lt_of_cell? w _ hx364_3)).trans hx364_3; replace p364 := eq_true p364; replace q364 := eq_true q364; obtain ⟨Ao21, co21, eo21⟩ := Kd.R_slice HO363.out; subst eo21; have p365 : 0 ≤ (((rd_T32 l1 x7_1).f0) : Int) := of_decide_eq_true qq3; have q365 : ((rd_T32 l1 x7_1).f0) < (t361.length : Int) := of_decide_eq_true qq3; obtain ⟨ad365, e365, hx365_0⟩ := Kd.at_int (Kd.R_reads' HO363.out).2.2 ((rd_T32 l1 x7_1).f0) p365 q365; cases e365; replace p365 := eq_true p365; replace q365 := eq_true q365; have p366 : 0 ≤ (x7_1 : Int) := of_decide_eq_true qq3; have q366 : x7_1 < (l1.length : Int) := of_decide_eq_true qq3; obtain ⟨ad366, e366, hx366_0, hx366_1, hx366_2, hx366_3⟩ := at_T32 HR1.out x7_1 p366 q366; obtain rfl : ad364 = ad366 := (by injection e366); replace hx366_0 := (HB.out.cell (World.block_lt_of_cell? w _ hx366_0)).trans hx366_0; replace hx366_1 := (HB.out.cell (World.block_lt_of_cell? w _ hx366_1)).trans hx366_1; replace hx366_2 := (HB.out.cell (World.block_lt_of_cell? w _ hx366_2)).trans hx366_2; replace hx366_3 := (HB.out.cell (World.block_lt_of_cell? w _ hx366_3)).trans hx366_3; replace p366 := eq_true p366; replace q366 := eq_true q366; have p367 : 0 ≤ (((rd_T32 l1 x7_1).f1) : Int) := of_decide_eq_true qq3; have q367 : ((rd_T32 l1 x7_1).f1) < (t361.length : Int) := of_decide_eq_true qq3; obtain ⟨ad367, e367, hx367_0⟩ := Kd.at_int (Kd.R_reads' HO363.out).2.2 ((rd_T32 l1 x7_1).f1) p367 q367; obtain rfl : ad365 = ad367 := (by injection e367); replace p367 := eq_true p367; replace q367 := eq_true q367)); try go_wp2_with (first | (go_at_call 66; (with_reducible refine (spec_l12Some.calls k1 _ _ l1 _ _ x6_1 t358 _ ?side1 ?side2 ?side3 ?side4 A9.out).mono ?_); (case side1 => exact qq35); (case side2 => exact HC1.out); (case side3 => exact qq12 HO_6.out); (case side4 => exact qq50 HO_6.out); rintro e w18 ⟨v359, rfl, ho0, hb⟩; have n0_ := Aside0.mk (Kd.R_below (qq2 HO_6.out) hb); have n1_ := Aside0.mk (Kd.R_lower ho0 (below_size qq1)); have n2_ := Aside0.mk (below_step qq1 hb); clear HO_6; clear HB; have HO_6 := n0_; have HO360 := n1_; have HB := n2_; clear n0_ n1_ n2_; (try clear hb); (try clear hb2); (try clear hk); (try clear hi); (try clear ho0); obtain ⟨Ao19, co19, eo19⟩ := Kd.R_slice HO360.out; subst eo19) | (go_at_call 65; (with_reducible refine (spec_l11Linked.calls k1 a0 _ _ t358 t361 _ ?side1 ?side2 A10.out).mono ?_); (case side1 => exact qq12 HO360.out); (case side2 => exact qq50 HO360.out); rintro e w20 ⟨v362, rfl, ho0, hb⟩; have n0_ := Aside0.mk (Kd.R_elder' (qq2 HO_6.out) (Kd.R_base ho0) hb); have n1_ := Aside0.mk (Kd.R_below (qq2 HO360.out) hb); have n2_ := Aside0.mk (Kd.R_lower (Kd.R_new' ho0 (Kd.R_lt (qq2 HO_6.out))) (below_size qq1)); have n3_ := Aside0.mk (below_step qq1 hb); clear HO_6; clear HO360; clear HB; have HO_6 := n0_; have HO360 := n1_; have HO363 := n2_; have HB := n3_; clear n0_ n1_ n2_ n3_; (try clear hb); (try clear hb2); (try clear hk); (try clear hi); (try clear ho0); have p364 : 0 ≤ (x7_1 : Int) := of_decide_eq_true qq3; have q364 : x7_1 < (l1.length : Int) := of_decide_eq_true qq3; obtain ⟨ad364, e364, hx364_0, hx364_1, hx364_2, hx364_3⟩ := at_T32 HR1.out x7_1 p364 q364; cases e364; replace hx364_0 := (HB.out.cell (World.block_lt_of_cell? w _ hx364_0)).trans hx364_0; replace hx364_1 := (HB.out.cell (World.block_lt_of_cell? w _ hx364_1)).trans hx364_1; replace hx364_2 := (HB.out.cell (World.block_lt_of_cell? w _ hx364_2)).trans hx364_2; replace hx364_3 := (HB.out.cell (World.block_lt_of_cell? w _ hx364_3)).trans hx364_3; replace p364 := eq_true p364; replace q364 := eq_true q364; obtain ⟨Ao21, co21, eo21⟩ := Kd.R_slice HO363.out; subst eo21; have p365 : 0 ≤ (((rd_T32 l1 x7_1).f0) : Int) := of_decide_eq_true qq3; have q365 : ((rd_T32 l1 x7_1).f0) < (t361.length : Int) := of_decide_eq_true qq3; obtain ⟨ad365, e365, hx365_0⟩ := Kd.at_int (Kd.R_reads' HO363.out).2.2 ((rd_T32 l1 x7_1).f0) p365 q365; cases e365; replace p365 := eq_true p365; replace q365 := eq_true q365; have p366 : 0 ≤ (x7_1 : Int) := of_decide_eq_true qq3; have q366 : x7_1 < (l1.length : Int) := of_decide_eq_true qq3; obtain ⟨ad366, e366, hx366_0, hx366_1, hx366_2, hx366_3⟩ := at_T32 HR1.out x7_1 p366 q366; obtain rfl : ad364 = ad366 := (by injection e366); replace hx366_0 := (HB.out.cell (World.block_lt_of_cell? w _ hx366_0)).trans hx366_0; replace hx366_1 := (HB.out.cell (World.block_lt_of_cell? w _ hx366_1)).trans hx366_1; replace hx366_2 := (HB.out.cell (World.block_lt_of_cell? w _ hx366_2)).trans hx366_2; replace hx366_3 := (HB.out.cell (World.block_lt_of_cell? w _ hx366_3)).trans hx366_3; replace p366 := eq_true p366; replace q366 := eq_true q366; have p367 : 0 ≤ (((rd_T32 l1 x7_1).f1) : Int) := of_decide_eq_true qq3; have q367 : ((rd_T32 l1 x7_1).f1) < (t361.length : Int) := of_decide_eq_true qq3; obtain ⟨ad367, e367, hx367_0⟩ := Kd.at_int (Kd.R_reads' HO363.out).2.2 ((rd_T32 l1 x7_1).f1) p367 q367; obtain rfl : ad365 = ad367 := (by injection e367); replace p367 := eq_true p367; replace q367 := eq_true q367)))
                      go_roundg k1
                      case measure => have := HK1.out; omega
                      case rel => exact ⟨(x6_1), (wrap64 (x7_1 + 1)), qq13, H', ⟨by have := HK1.out; omega⟩, ⟨qq17 HO_6.out⟩, ⟨qq1⟩⟩
                    · rw [if_neg c16] at H
                      have c16b0 : ((rd t361 ((rd_T32 l1 x7_1).f0)) == (rd t361 ((rd_T32 l1 x7_1).f1))) = false := beq_eq_false_iff_ne.mpr c16
                      have c16b1 : ((rd t361 ((rd_T32 l1 x7_1).f0)) != (rd t361 ((rd_T32 l1 x7_1).f1))) = true := bne_iff_ne.mpr c16
                      by_cases c22 : x6_1.length < 17592186044416
                      · rw [if_pos c22] at H
                        have LMc22 := Aside0.mk c22
                        clear c22
                        obtain ⟨y368, hy368⟩ : ∃ y_ : List Int, y_ = (x6_1 ++ [x7_1]) := ⟨_, rfl⟩
                        replace H : (spec_TreeFirst.l0 k1 a0 l1 y368 (wrap64 (x7_1 + 1))) = some (r1, r2) := by first | (rw [hy368]; with_reducible exact H) | (have H2_ := (Option.bind_some _ _).symm.trans H; rw [hy368]; with_reducible exact H2_) | (have H2_ := (Option.bind_some _ _).symm.trans H; with_reducible exact H2_) | with_reducible exact H | (rw [hy368]; exact H) | exact H
                        have Ny368 := Aside0.mk hy368
                        clear hy368
                        have H' := Aside0.mk H
                        clear H
                        obtain ⟨Ao23, co23, eo23⟩ := Kd.R_slice HO_6.out
                        subst eo23
                        go_wp2_with (first | (go_at_call 66; (with_reducible refine (spec_l12Some.calls k1 _ _ l1 _ _ x6_1 t358 _ ?side1 ?side2 ?side3 ?side4 A9.out).mono ?_); (case side1 => exact qq35); (case side2 => exact HC1.out); (case side3 => exact qq12 HO_6.out); (case side4 => exact qq50 HO_6.out); rintro e w24 ⟨v359, rfl, ho0, hb⟩; have n0_ := Aside0.mk (Kd.R_below (qq2 HO_6.out) hb); have n1_ := Aside0.mk (Kd.R_lower ho0 (below_size qq1)); have n2_ := Aside0.mk (below_step qq1 hb); clear HO_6; clear HB; have HO_6 := n0_; have HO360 := n1_; have HB := n2_; clear n0_ n1_ n2_; (try clear hb); (try clear hb2); (try clear hk); (try clear hi); (try clear ho0); obtain ⟨Ao25, co25, eo25⟩ := Kd.R_slice HO360.out; subst eo25) | (go_at_call 65; (with_reducible refine (spec_l11Linked.calls k1 a0 _ _ t358 t361 _ ?side1 ?side2 A10.out).mono ?_); (case side1 => exact qq12 HO360.out); (case side2 => exact qq50 HO360.out); rintro e w26 ⟨v362, rfl, ho0, hb⟩; have n0_ := Aside0.mk (Kd.R_elder' (qq2 HO_6.out) (Kd.R_base ho0) hb); have n1_ := Aside0.mk (Kd.R_below (qq2 HO360.out) hb); have n2_ := Aside0.mk (Kd.R_lower (Kd.R_new' ho0 (Kd.R_lt (qq2 HO_6.out))) (below_size qq1)); have n3_ := Aside0.mk (below_step qq1 hb); clear HO_6; clear HO360; clear HB; have HO_6 := n0_; have HO360 := n1_; have HO363 := n2_; have HB := n3_; clear n0_ n1_ n2_ n3_; (try clear hb); (try clear hb2); (try clear hk); (try clear hi); (try clear ho0); have p364 : 0 ≤ (x7_1 : Int) := of_decide_eq_true qq3; have q364 : x7_1 < (l1.length : Int) := of_decide_eq_true qq3; obtain ⟨ad364, e364, hx364_0, hx364_1, hx364_2, hx364_3⟩ := at_T32 HR1.out x7_1 p364 q364; cases e364; replace hx364_0 := (HB.out.cell (World.block_lt_of_cell? w _ hx364_0)).trans hx364_0; replace hx364_1 := (HB.out.cell (World.block_lt_of_cell? w _ hx364_1)).trans hx364_1; replace hx364_2 := (HB.out.cell (World.block_lt_of_cell? w _ hx364_2)).trans hx364_2; replace hx364_3 := (HB.out.cell (World.block_lt_of_cell? w _ hx364_3)).trans hx364_3; replace p364 := eq_true p364; replace q364 := eq_true q364; obtain ⟨Ao27, co27, eo27⟩ := Kd.R_slice HO363.out; subst eo27; have p365 : 0 ≤ (((rd_T32 l1 x7_1).f0) : Int) := of_decide_eq_true qq3; have q365 : ((rd_T32 l1 x7_1).f0) < (t361.length : Int) := of_decide_eq_true qq3; obtain ⟨ad365, e365, hx365_0⟩ := Kd.at_int (Kd.R_reads' HO363.out).2.2 ((rd_T32 l1 x7_1).f0) p365 q365; cases e365; replace p365 := eq_true p365; replace q365 := eq_true q365; have p366 : 0 ≤ (x7_1 : Int) := of_decide_eq_true qq3; have q366 : x7_1 < (l1.length : Int) := of_decide_eq_true qq3; obtain ⟨ad366, e366, hx366_0, hx366_1, hx366_2, hx366_3⟩ := at_T32 HR1.out x7_1 p366 q366; obtain rfl : ad364 = ad366 := (by injection e366); replace hx366_0 := (HB.out.cell (World.block_lt_of_cell? w _ hx366_0)).trans hx366_0; replace hx366_1 := (HB.out.cell (World.block_lt_of_cell? w _ hx366_1)).trans hx366_1; replace hx366_2 := (HB.out.cell (World.block_lt_of_cell? w _ hx366_2)).trans hx366_2; replace hx366_3 := (HB.out.cell (World.block_lt_of_cell? w _ hx366_3)).trans hx366_3; replace p366 := eq_true p366; replace q366 := eq_true q366; have p367 : 0 ≤ (((rd_T32 l1 x7_1).f1) : Int) := of_decide_eq_true qq3; have q367 : ((rd_T32 l1 x7_1).f1) < (t361.length : Int) := of_decide_eq_true qq3; obtain ⟨ad367, e367, hx367_0⟩ := Kd.at_int (Kd.R_reads' HO363.out).2.2 ((rd_T32 l1 x7_1).f1) p367 q367; obtain rfl : ad365 = ad367 := (by injection e367); replace p367 := eq_true p367; replace q367 := eq_true q367) | ((with_reducible refine gate_builtin (b := .append) (xs := #[.tmp 43, .tmp 45]) rfl ?_); at_builtin; refine Kd.R_append (Kd.int .i64) (w0 := w) w.heap.size rfl (.tmp 43) (.tmp 45) 27 3 (.int .i64 0) 8 rfl Try.underlying27 info3 rfl (by decide) (by omega) (.slice Ao23 x6_1.length co23) x6_1 x7_1 [.int .i64 x7_1] (fun k_ => some k_ ≠ (.slice (some ad365) t361.length co27 : Value).ownBlock) (fun _ => False) rfl rfl ?aP (fun _ hk => hk.elim) ?aF ?aO ?aB ?aS ?aL ?_; (case aP => exact rfl); (case aB => exact qq1); (case aF => exact qq57 HO363.out); (case aO => exact (qq21 HO_6.out)); (case aS => exact (below_size qq1)); (case aL => have := LMc22.out; omega); intro v369 w28 ho hb hg hat; rw [← Ny368.out] at ho; have n0_ := Aside0.mk (Kd.R_over' (qq2 HO360.out) (Kd.R_typed (qq2 HO_6.out)) (by decide) hg); have n1_ := Aside0.mk (Kd.R_after (ok := (fun _ => True)) (qq2 HO363.out) hg hat); have n2_ := Aside0.mk (hb); have n3_ := Aside0.mk (ho); clear HO360; clear HO363; clear HB; clear HO_6; have HO360 := n0_; have HO363 := n1_; have HB := n2_; have HO370 := n3_; clear n0_ n1_ n2_ n3_; clear ho hb hg hat))
                        repeat (go_quiet (first | (go_at_call 66; (with_reducible refine (spec_l12Some.calls k1 _ _ l1 _ _ x6_1 t358 _ ?side1 ?side2 ?side3 ?side4 A9.out).mono ?_); (case side1 => exact qq35); (case side2 => exact HC1.out); (case side3 => exact qq12 HO_6.out); (case side4 => exact qq50 HO_6.out); rintro e w24 ⟨v359, rfl, ho0, hb⟩; have n0_ := Aside0.mk (Kd.R_below (qq2 HO_6.out) hb); have n1_ := Aside0.mk (Kd.R_lower ho0 (below_size qq1)); have n2_ := Aside0.mk (below_step qq1 hb); clear HO_6; clear HB; have HO_6 := n0_; have HO360 := n1_; have HB := n2_; clear n0_ n1_ n2_; (try clear hb); (try clear hb2); (try clear hk); (try clear hi); (try clear ho0); obtain ⟨Ao25, co25, eo25⟩ := Kd.R_slice HO360.out; subst eo25) | (go_at_call 65; (with_reducible refine (spec_l11Linked.calls k1 a0 _ _ t358 t361 _ ?side1 ?side2 A10.out).mono ?_); (case side1 => exact qq12 HO360.out); (case side2 => exact qq50 HO360.out); rintro e w26 ⟨v362, rfl, ho0, hb⟩; have n0_ := Aside0.mk (Kd.R_elder' (qq2 HO_6.out) (Kd.R_base ho0) hb); have n1_ := Aside0.mk (Kd.R_below (qq2 HO360.out) hb); have n2_ := Aside0.mk (Kd.R_lower (Kd.R_new' ho0 (Kd.R_lt (qq2 HO_6.out))) (below_size qq1)); have n3_ := Aside0.mk (below_step qq1 hb); clear HO_6; clear HO360; clear HB; have HO_6 := n0_; have HO360 := n1_; have HO363 := n2_; have HB := n3_; clear n0_ n1_ n2_ n3_; (try clear hb); (try clear hb2); (try clear hk); (try clear hi); (try clear ho0); have p364 : 0 ≤ (x7_1 : Int) := of_decide_eq_true qq3; have q364 : x7_1 < (l1.length : Int) := of_decide_eq_true qq3; obtain ⟨ad364, e364, hx364_0, hx364_1, hx364_2, hx364_3⟩ := at_T32 HR1.out x7_1 p364 q364; cases e364; replace hx364_0 := (HB.out.cell (World.block_lt_of_cell? w _ hx364_0)).trans hx364_0; replace hx364_1 := (HB.out.cell (World.block_lt_of_cell? w _ hx364_1)).trans hx364_1; replace hx364_2 := (HB.out.cell (World.block_lt_of_cell? w _ hx364_2)).trans hx364_2; replace hx364_3 := (HB.out.cell (World.block_lt_of_cell? w _ hx364_3)).trans hx364_3; replace p364 := eq_true p364; replace q364 := eq_true q364; obtain ⟨Ao27, co27, eo27⟩ := Kd.R_slice HO363.out; subst eo27; have p365 : 0 ≤ (((rd_T32 l1 x7_1).f0) : Int) := of_decide_eq_true qq3; have q365 : ((rd_T32 l1 x7_1).f0) < (t361.length : Int) := of_decide_eq_true qq3; obtain ⟨ad365, e365, hx365_0⟩ := Kd.at_int (Kd.R_reads' HO363.out).2.2 ((rd_T32 l1 x7_1).f0) p365 q365; cases e365; replace p365 := eq_true p365; replace q365 := eq_true q365; have p366 : 0 ≤ (x7_1 : Int) := of_decide_eq_true qq3; have q366 : x7_1 < (l1.length : Int) := of_decide_eq_true qq3; obtain ⟨ad366, e366, hx366_0, hx366_1, hx366_2, hx366_3⟩ := at_T32 HR1.out x7_1 p366 q366; obtain rfl : ad364 = ad366 := (by injection e366); replace hx366_0 := (HB.out.cell (World.block_lt_of_cell? w _ hx366_0)).trans hx366_0; replace hx366_1 := (HB.out.cell (World.block_lt_of_cell? w _ hx366_1)).trans hx366_1; replace hx366_2 := (HB.out.cell (World.block_lt_of_cell? w _ hx366_2)).trans hx366_2; replace hx366_3 := (HB.out.cell (World.block_lt_of_cell? w _ hx366_3)).trans hx366_3; replace p366 := eq_true p366; replace q366 := eq_true q366; have p367 : 0 ≤ (((rd_T32 l1 x7_1).f1) : Int) := of_decide_eq_true qq3; have q367 : ((rd_T32 l1 x7_1).f1) < (t361.length : Int) := of_decide_eq_true qq3; obtain ⟨ad367, e367, hx367_0⟩ := Kd.at_int (Kd.R_reads' HO363.out).2.2 ((rd_T32 l1 x7_1).f1) p367 q367; obtain rfl : ad365 = ad367 := (by injection e367); replace p367 := eq_true p367; replace q367 := eq_true q367) | ((with_reducible refine gate_builtin (b := .append) (xs := #[.tmp 43, .tmp 45]) rfl ?_); at_builtin; refine Kd.R_append (Kd.int .i64) (w0 := w) w.heap.size rfl (.tmp 43) (.tmp 45) 27 3 (.int .i64 0) 8 rfl Try.underlying27 info3 rfl (by decide) (by omega) (.slice Ao23 x6_1.length co23) x6_1 x7_1 [.int .i64 x7_1] (fun k_ => some k_ ≠ (.slice (some ad365) t361.length co27 : Value).ownBlock) (fun _ => False) rfl rfl ?aP (fun _ hk => hk.elim) ?aF ?aO ?aB ?aS ?aL ?_; (case aP => exact rfl); (case aB => exact qq1); (case aF => exact qq57 HO363.out); (case aO => exact (qq21 HO_6.out)); (case aS => exact (below_size qq1)); (case aL => have := LMc22.out; omega); intro v369 w28 ho hb hg hat; rw [← Ny368.out] at ho; have n0_ := Aside0.mk (Kd.R_over' (qq2 HO360.out) (Kd.R_typed (qq2 HO_6.out)) (by decide) hg); have n1_ := Aside0.mk (Kd.R_after (ok := (fun _ => True)) (qq2 HO363.out) hg hat); have n2_ := Aside0.mk (hb); have n3_ := Aside0.mk (ho); clear HO360; clear HO363; clear HB; clear HO_6; have HO360 := n0_; have HO363 := n1_; have HB := n2_; have HO370 := n3_; clear n0_ n1_ n2_ n3_; clear ho hb hg hat)); try go_wp2_with (first | (go_at_call 66; (with_reducible refine (spec_l12Some.calls k1 _ _ l1 _ _ x6_1 t358 _ ?side1 ?side2 ?side3 ?side4 A9.out).mono ?_); (case side1 => exact qq35); (case side2 => exact HC1.out); (case side3 => exact qq12 HO_6.out); (case side4 => exact qq50 HO_6.out); rintro e w24 ⟨v359, rfl, ho0, hb⟩; have n0_ := Aside0.mk (Kd.R_below (qq2 HO_6.out) hb); have n1_ := Aside0.mk (Kd.R_lower ho0 (below_size qq1)); have n2_ := Aside0.mk (below_step qq1 hb); clear HO_6; clear HB; have HO_6 := n0_; have HO360 := n1_; have HB := n2_; clear n0_ n1_ n2_; (try clear hb); (try clear hb2); (try clear hk); (try clear hi); (try clear ho0); obtain ⟨Ao25, co25, eo25⟩ := Kd.R_slice HO360.out; subst eo25) | (go_at_call 65; (with_reducible refine (spec_l11Linked.calls k1 a0 _ _ t358 t361 _ ?side1 ?side2 A10.out).mono ?_); (case side1 => exact qq12 HO360.out); (case side2 => exact qq50 HO360.out); rintro e w26 ⟨v362, rfl, ho0, hb⟩; have n0_ := Aside0.mk (Kd.R_elder' (qq2 HO_6.out) (Kd.R_base ho0) hb); have n1_ := Aside0.mk (Kd.R_below (qq2 HO360.out) hb); have n2_ := Aside0.mk (Kd.R_lower (Kd.R_new' ho0 (Kd.R_lt (qq2 HO_6.out))) (below_size qq1)); have n3_ := Aside0.mk (below_step qq1 hb); clear HO_6; clear HO360; clear HB; have HO_6 := n0_; have HO360 := n1_; have HO363 := n2_; have HB := n3_; clear n0_ n1_ n2_ n3_; (try clear hb); (try clear hb2); (try clear hk); (try clear hi); (try clear ho0); have p364 : 0 ≤ (x7_1 : Int) := of_decide_eq_true qq3; have q364 : x7_1 < (l1.length : Int) := of_decide_eq_true qq3; obtain ⟨ad364, e364, hx364_0, hx364_1, hx364_2, hx364_3⟩ := at_T32 HR1.out x7_1 p364 q364; cases e364; replace hx364_0 := (HB.out.cell (World.block_lt_of_cell? w _ hx364_0)).trans hx364_0; replace hx364_1 := (HB.out.cell (World.block_lt_of_cell? w _ hx364_1)).trans hx364_1; replace hx364_2 := (HB.out.cell (World.block_lt_of_cell? w _ hx364_2)).trans hx364_2; replace hx364_3 := (HB.out.cell (World.block_lt_of_cell? w _ hx364_3)).trans hx364_3; replace p364 := eq_true p364; replace q364 := eq_true q364; obtain ⟨Ao27, co27, eo27⟩ := Kd.R_slice HO363.out; subst eo27; have p365 : 0 ≤ (((rd_T32 l1 x7_1).f0) : Int) := of_decide_eq_true qq3; have q365 : ((rd_T32 l1 x7_1).f0) < (t361.length : Int) := of_decide_eq_true qq3; obtain ⟨ad365, e365, hx365_0⟩ := Kd.at_int (Kd.R_reads' HO363.out).2.2 ((rd_T32 l1 x7_1).f0) p365 q365; cases e365; replace p365 := eq_true p365; replace q365 := eq_true q365; have p366 : 0 ≤ (x7_1 : Int) := of_decide_eq_true qq3; have q366 : x7_1 < (l1.length : Int) := of_decide_eq_true qq3; obtain ⟨ad366, e366, hx366_0, hx366_1, hx366_2, hx366_3⟩ := at_T32 HR1.out x7_1 p366 q366; obtain rfl : ad364 = ad366 := (by injection e366); replace hx366_0 := (HB.out.cell (World.block_lt_of_cell? w _ hx366_0)).trans hx366_0; replace hx366_1 := (HB.out.cell (World.block_lt_of_cell? w _ hx366_1)).trans hx366_1; replace hx366_2 := (HB.out.cell (World.block_lt_of_cell? w _ hx366_2)).trans hx366_2; replace hx366_3 := (HB.out.cell (World.block_lt_of_cell? w _ hx366_3)).trans hx366_3; replace p366 := eq_true p366; replace q366 := eq_true q366; have p367 : 0 ≤ (((rd_T32 l1 x7_1).f1) : Int) := of_decide_eq_true qq3; have q367 : ((rd_T32 l1 x7_1).f1) < (t361.length : Int) := of_decide_eq_true qq3; obtain ⟨ad367, e367, hx367_0⟩ := Kd.at_int (Kd.R_reads' HO363.out).2.2 ((rd_T32 l1 x7_1).f1) p367 q367; obtain rfl : ad365 = ad367 := (by injection e367); replace p367 := eq_true p367; replace q367 := eq_true q367) | ((with_reducible refine gate_builtin (b := .append) (xs := #[.tmp 43, .tmp 45]) rfl ?_); at_builtin; refine Kd.R_append (Kd.int .i64) (w0 := w) w.heap.size rfl (.tmp 43) (.tmp 45) 27 3 (.int .i64 0) 8 rfl Try.underlying27 info3 rfl (by decide) (by omega) (.slice Ao23 x6_1.length co23) x6_1 x7_1 [.int .i64 x7_1] (fun k_ => some k_ ≠ (.slice (some ad365) t361.length co27 : Value).ownBlock) (fun _ => False) rfl rfl ?aP (fun _ hk => hk.elim) ?aF ?aO ?aB ?aS ?aL ?_; (case aP => exact rfl); (case aB => exact qq1); (case aF => exact qq57 HO363.out); (case aO => exact (qq21 HO_6.out)); (case aS => exact (below_size qq1)); (case aL => have := LMc22.out; omega); intro v369 w28 ho hb hg hat; rw [← Ny368.out] at ho; have n0_ := Aside0.mk (Kd.R_over' (qq2 HO360.out) (Kd.R_typed (qq2 HO_6.out)) (by decide) hg); have n1_ := Aside0.mk (Kd.R_after (ok := (fun _ => True)) (qq2 HO363.out) hg hat); have n2_ := Aside0.mk (hb); have n3_ := Aside0.mk (ho); clear HO360; clear HO363; clear HB; clear HO_6; have HO360 := n0_; have HO363 := n1_; have HB := n2_; have HO370 := n3_; clear n0_ n1_ n2_ n3_; clear ho hb hg hat)))
                        go_roundg k1
                        case measure => have := HK1.out; omega
                        case rel => exact ⟨(y368), (wrap64 (x7_1 + 1)), qq13, H', ⟨by have := HK1.out; omega⟩, ⟨qq17 HO370.out⟩, ⟨qq1⟩⟩
                      · rw [if_neg c22] at H
                        exact absurd H (by simp)
                  · rw [if_neg c15] at H
                    exact absurd H (by simp)
                · rw [if_neg c14] at H
                  exact absurd H (by simp)
              · rw [if_neg c13] at H
                exact absurd H (by simp)
            · rw [if_neg c12] at H
              exact absurd H (by simp)
          · rw [if_neg c11] at H
            exact absurd H (by simp)
        · rw [if_neg c8] at H
          have c8b0 : decide (x7_1 < (l1.length : Int)) = false := decide_eq_false c8
          clear c8
          simp only [Option.some.injEq, Prod.mk.injEq] at H
          obtain ⟨rfl, rfl⟩ := H
          go_wp2
          repeat (go_quiet (fail); try go_wp2)
          go_ret2
          exact ⟨_, qq11, qq2 HO_6.out, qq1⟩
  · replace c4 := Bool.eq_false_iff.mpr c4
    subst c4
    have H1 : (some (y354, false)) = some (r1, r2) := by rw [if_neg (show ¬ (false = true) by decide)] at H; exact H
    clear H
    have H := H1
    clear H1
    simp only [Option.some.injEq, Prod.mk.injEq] at H
    obtain ⟨rfl, rfl⟩ := H
    go_enter Try.func53, Try.ntmps53
    go_wp2_with (first | ((with_reducible refine gate_dst (N := 9) rfl ?_); refine Kd.R_lit (Kd.int .i64) _ 3 ?hg (N := 9) ?hd (xs := ([] : List Int)) (inner := []) (ok := fun _ => True) (okp := fun _ => True) ?hr ?hp (fun _ hk => hk) trivial (Below.refl _ _) (Nat.le_refl _) (by simp) ?_; (case hd => rfl); (case hg => rfl); (case hr => exact qq16); (case hp => exact (Reps.none _ _)); intro v355 w29 ho30 hb hg_ hnew_; clear hg_ hnew_; (first | rw [← Ny354.out] at ho30 | (simp only [Int.reduceToNat] at ho30; rw [← Ny354.out] at ho30)); have n0_ := Aside0.mk (Kd.R_lower ho30 (below_size qq1)); have n1_ := Aside0.mk (below_step qq1 hb); clear HB; have HO356 := n0_; have HB := n1_; clear n0_ n1_; clear hb ho30) | (go_at_call 32; (with_reducible refine (spec_NetWhole.calls k a0 _ _ l1 false _ ?side1 ?side2 A3.out).mono ?_); (case side1 => exact qq35); (case side2 => exact HC1.out); rintro e w31 ⟨rfl, hb⟩; have n0_ := Aside0.mk (Kd.R_below (qq2 HO356.out) hb); have n1_ := Aside0.mk (below_step qq1 hb); clear HO356; clear HB; have HO356 := n0_; have HB := n1_; clear n0_ n1_; (try clear hb); (try clear hb2); (try clear hk); (try clear hi)))
    repeat (go_quiet (first | ((with_reducible refine gate_dst (N := 9) rfl ?_); refine Kd.R_lit (Kd.int .i64) _ 3 ?hg (N := 9) ?hd (xs := ([] : List Int)) (inner := []) (ok := fun _ => True) (okp := fun _ => True) ?hr ?hp (fun _ hk => hk) trivial (Below.refl _ _) (Nat.le_refl _) (by simp) ?_; (case hd => rfl); (case hg => rfl); (case hr => exact qq16); (case hp => exact (Reps.none _ _)); intro v355 w29 ho30 hb hg_ hnew_; clear hg_ hnew_; (first | rw [← Ny354.out] at ho30 | (simp only [Int.reduceToNat] at ho30; rw [← Ny354.out] at ho30)); have n0_ := Aside0.mk (Kd.R_lower ho30 (below_size qq1)); have n1_ := Aside0.mk (below_step qq1 hb); clear HB; have HO356 := n0_; have HB := n1_; clear n0_ n1_; clear hb ho30) | (go_at_call 32; (with_reducible refine (spec_NetWhole.calls k a0 _ _ l1 false _ ?side1 ?side2 A3.out).mono ?_); (case side1 => exact qq35); (case side2 => exact HC1.out); rintro e w31 ⟨rfl, hb⟩; have n0_ := Aside0.mk (Kd.R_below (qq2 HO356.out) hb); have n1_ := Aside0.mk (below_step qq1 hb); clear HO356; clear HB; have HO356 := n0_; have HB := n1_; clear n0_ n1_; (try clear hb); (try clear hb2); (try clear hk); (try clear hi))); try go_wp2_with (first | ((with_reducible refine gate_dst (N := 9) rfl ?_); refine Kd.R_lit (Kd.int .i64) _ 3 ?hg (N := 9) ?hd (xs := ([] : List Int)) (inner := []) (ok := fun _ => True) (okp := fun _ => True) ?hr ?hp (fun _ hk => hk) trivial (Below.refl _ _) (Nat.le_refl _) (by simp) ?_; (case hd => rfl); (case hg => rfl); (case hr => exact qq16); (case hp => exact (Reps.none _ _)); intro v355 w29 ho30 hb hg_ hnew_; clear hg_ hnew_; (first | rw [← Ny354.out] at ho30 | (simp only [Int.reduceToNat] at ho30; rw [← Ny354.out] at ho30)); have n0_ := Aside0.mk (Kd.R_lower ho30 (below_size qq1)); have n1_ := Aside0.mk (below_step qq1 hb); clear HB; have HO356 := n0_; have HB := n1_; clear n0_ n1_; clear hb ho30) | (go_at_call 32; (with_reducible refine (spec_NetWhole.calls k a0 _ _ l1 false _ ?side1 ?side2 A3.out).mono ?_); (case side1 => exact qq35); (case side2 => exact HC1.out); rintro e w31 ⟨rfl, hb⟩; have n0_ := Aside0.mk (Kd.R_below (qq2 HO356.out) hb); have n1_ := Aside0.mk (below_step qq1 hb); clear HO356; clear HB; have HO356 := n0_; have HB := n1_; clear n0_ n1_; (try clear hb); (try clear hb2); (try clear hk); (try clear hi))))
    go_ret2
    exact ⟨_, qq11, qq2 HO356.out, qq1⟩

end Go.Proofs.Ytmcfhmflncghiaa.Q
