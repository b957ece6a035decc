/- The neighbours of each node of a net, as the program lays them in a map: the walk. -/
import Derived.Test.YtbbpianfoimejaaLinkL
import Derived.Maps.GroupsBeside
import Derived.Deep.RegionHeldLaw
import Derived.Deep.AppendLies
import Derived.Carry
import Derived.WalkKit
import Derived.WalkSpells
import Derived.StillTactics
import Derived.OwnWalk
namespace Go.Proofs.Ytbbpianfoimejaa.LinkW
open Go.RowKit Go.WideMaps Go.Maps Go.Proofs.Ytbbpianfoimejaa.Q Go.Proofs.Ytbbpianfoimejaa.Pure Go.Proofs.YtbbpianfoimejaaW.PrintWords Go.Proofs.YtbbpianfoimejaaW.PrintLast Go.Proofs.YtbbpianfoimejaaW.PrintMore
set_option linter.unusedVariables false
set_option linter.unusedSimpArgs false
theorem info_int : (Try.prog.info? 3).map (fun i => (i.zero, i.size, i.bytes)) = some (some (.int .i64 0), 1, 8) := by kernel_rfl
theorem zeroS (w : World) : (zeroValue 31).run Try.prog w = .ok (.slice none 0 0) w := by kernel_rfl
theorem keyI : Keyed Try.prog 3 := int_keyed Try.underlying3
theorem cell_set {w : World} {p q : Addr} {u v : Value} (h : w.cell? q = some v) (hne : q.block ≠ p.block) : (w.setCell p u).cell? q = some v :=
  (World.cell?_of_block (Below.heap_setCell w p u q.block hne)).trans h
/-- A run laid in a variable. -/
def put4 (w : World) (g : Nat) (a b c d : Int) : World := (((w.setCell ⟨g, 0, none⟩ (.int .i64 a)).setCell ⟨g, 1, none⟩ (.int .i64 b)).setCell ⟨g, 2, none⟩ (.int .i64 c)).setCell ⟨g, 3, none⟩ (.int .i64 d)
theorem put4_blk {w : World} {g : Nat} {a b c d : Int} {t : TypeId} (h : w.heap[g]? = some (.cells #[.int .i64 0, .int .i64 0, .int .i64 0, .int .i64 0] t (0, 0))) : (put4 w g a b c d).heap[g]? = some (.cells #[.int .i64 a, .int .i64 b, .int .i64 c, .int .i64 d] t (0, 0)) := by
  unfold put4
  refine blk_put (cs := #[.int .i64 a, .int .i64 b, .int .i64 c, .int .i64 0]) ?_ 3 _ rfl
  refine blk_put (cs := #[.int .i64 a, .int .i64 b, .int .i64 0, .int .i64 0]) ?_ 2 _ rfl
  refine blk_put (cs := #[.int .i64 a, .int .i64 0, .int .i64 0, .int .i64 0]) ?_ 1 _ rfl
  exact blk_put h 0 _ rfl
theorem put4_below {B : Nat} {w w1 : World} {g : Nat} {a b c d : Int} (h : Below B w w1) (hg : B ≤ g) : Below B w (put4 w1 g a b c d) :=
  (((h.setCell (p := ⟨g, 0, none⟩) hg _).setCell (p := ⟨g, 1, none⟩) hg _).setCell (p := ⟨g, 2, none⟩) hg _).setCell (p := ⟨g, 3, none⟩) hg _
theorem meas_up {n i : Nat} (h : i < n) (e : wrap64 ((i : Int) + 1) = ((i + 1 : Nat) : Int)) : n - (intOf (.int .i64 (wrap64 ((i : Int) + 1)))).toNat < n - (intOf (.int .i64 (i : Int))).toNat := by
  rw [e]
  show n - (i + 1) < n - i
  omega
theorem meas_up2 {n i : Nat} (h : i < n) : n - (intOf (.int .i64 ((i : Int) + 1))).toNat < n - (intOf (.int .i64 (i : Int))).toNat := by
  show n - (i + 1) < n - i
  omega
theorem take_rd (l : List Run) (i : Nat) (h : i < l.length) : l.take (i + 1) = l.take i ++ [rd_T46 l i] := by
  rw [List.take_add_one, List.getElem?_eq_getElem h]
  simp [rd_T46, h]
/-! what the map says -/
def adjD (ds : List (Int × Int)) (v : Int) : List Int := (ds.filter fun p => p.1 = v).map (·.2)
def dirs (l : List Run) : List (Int × Int) := l.flatMap fun r => [(r.f0, r.f1), (r.f1, r.f0)]
theorem adjD_snoc (ds : List (Int × Int)) (a b v : Int) : adjD (ds ++ [(a, b)]) v = adjD ds v ++ (if a = v then [b] else []) := by
  unfold adjD
  rw [List.filter_append, List.map_append]
  by_cases h : a = v
  · simp [h]
  · simp [h]
theorem adjD_len (ds : List (Int × Int)) (v : Int) : (adjD ds v).length ≤ ds.length := by
  unfold adjD; rw [List.length_map]; exact List.length_filter_le _ _
theorem dirs_snoc (l : List Run) (r : Run) : dirs (l ++ [r]) = (dirs l ++ [(r.f0, r.f1)]) ++ [(r.f1, r.f0)] := by simp [dirs]
theorem dirs_len (l : List Run) : (dirs l).length = 2 * l.length := by
  induction l with
  | nil => rfl
  | cons r l ih =>
    have : dirs (r :: l) = [(r.f0, r.f1), (r.f1, r.f0)] ++ dirs l := by simp [dirs]
    rw [this, List.length_append, ih]; simp; omega
section
variable {H : Type}
def dat (zs : List Int) : DataW H := if zs = [] then .nil else .slice (ChangeShapes.lits .i64 zs) []
def NB (D : DataW H) (ds : List (Int × Int)) : Prop := IsMap D ∧ ∀ v : Int, (Lit.int .i64 v).wf = true → D.atKey (.int .i64 v) .nil = dat (adjD ds v)
theorem NB.nil : NB (H := H) (.map []) [] := ⟨isMap_empty, fun v _ => by simp [DataW.atKey, dat, adjD]⟩
theorem lits_inj {a b : List Int} (h : ChangeShapes.lits (H := H) .i64 a = ChangeShapes.lits .i64 b) : a = b := by
  refine (List.map_inj_right (f := fun z : Int => (DataW.lit (.int .i64 z) : DataW H)) (fun x y hxy => ?_)).1 h
  simpa using hxy
theorem NB.read {D : DataW H} {ds : List (Int × Int)} (h : NB D ds) {v : Int} (hw : (Lit.int .i64 v).wf = true) {w : World} {base : Nat} {val : Value} {zs : List Int} (ho : w.ownsInts base 3 .i64 val zs) (hat : D.atKey (.int .i64 v) .nil = rowDatum .i64 val zs) : zs = adjD ds v := by
  rw [h.2 v hw] at hat
  unfold dat at hat
  rcases ho.datum (H := H) with ⟨h1, h2⟩ | h1 <;> rw [h1] at hat
  · split at hat
    · next q => rw [h2, q]
    · cases hat
  · split at hat
    · cases hat
    · have := lits_inj (by simpa using hat)
      exact this.symm
theorem NB.put {D : DataW H} {ds : List (Int × Int)} (h : NB D ds) {a b : Int} (ha : (Lit.int .i64 a).wf = true) : NB (D.put (.int .i64 a) (.slice (ChangeShapes.lits .i64 (adjD ds a ++ [b])) [])) (ds ++ [(a, b)]) := by
  refine ⟨h.1.put _ _, fun v hv => ?_⟩
  rw [adjD_snoc]
  by_cases e : a = v
  · subst e
    rw [atKey_put_same h.1 (by simp [WideAt.IsKeyLit]), if_pos rfl]
    simp [dat]
  · rw [atKey_put_other (by intro q; injection q with _ q; exact e q.symm), if_neg e, List.append_nil]
    exact h.2 v hv
end
theorem grown_of_below {w w1 : World} (h : Below w.heap.size w w1) : w.grownBy w1 none := ⟨h.os, h.tape, h.output, h.size, fun i hi _ => h.block i hi⟩
theorem put4_grown {w w1 : World} {g : Nat} {a b c d : Int} (h : Below w.heap.size w w1) (hg : w.heap.size ≤ g) : w.grownBy (put4 w1 g a b c d) none := grown_of_below (put4_below h hg)
/-- What a round keeps: the map, the neighbours so far, and that no row of theirs is the variable's block. -/
structure Gr {H : Type} (W : World) (B n : Nat) (ds : List (Int × Int)) (g : Nat) (D : DataW H) : Prop where
  own : W.ownsGroups (H := H) Try.prog 3 (B + 1) 3 .i64 B n D
  nb : NB D ds
  sh : W.Shuns B (fun k => k = g)
  lt : g < W.heap.size
  ne : g ≠ B
theorem isK {v : Value} {l : Lit} (h : keyOf Try.prog 3 v = some l) : MapKept.IsKey (.int .i64) v := by
  have h2 : mapKey Try.prog 3 v = some l := by simpa [keyOf, Try.underlying3] using h
  obtain ⟨d', hd', h1, _⟩ := WideShapes.mapKey_isKey h2
  rw [Try.underlying3] at hd'
  cases hd'
  exact h1
/-- A look-up reads the map's block alone. -/
theorem look_same {w w' : World} {b : Nat} {es : Array MapEntry} {clock : Nat} (hb : w.heap[b]? = some (.map es clock)) (hb' : w'.heap[b]? = some (.map es clock)) (hkeys : ∀ x ∈ es.toList, ∃ l, keyOf Try.prog 3 x.key = some l) {a : Int} (ha : (Lit.int .i64 a).wf = true) {v : Value}
    (h : (Instr.lookup 71 (.map (some b)) (.int .i64 a) false).run Try.prog w = .ok v w) : (Instr.lookup 71 (.map (some b)) (.int .i64 a) false).run Try.prog w' = .ok v w' := by
  have hkey : keyOf Try.prog 3 (.int .i64 a) = some (.int .i64 a) := keyOf_int_mk Try.underlying3 ha
  have hks : ∀ y ∈ es.toList, MapKept.IsKey (.int .i64) y.key := fun y hy => by
    obtain ⟨l, hl⟩ := hkeys y hy
    exact isK hl
  rcases MapKept.findNow_spec (isK hkey) es.toList 0 hks with ⟨h1, _⟩ | ⟨j, e0, h1, _, _⟩
  · have f := fun x : World => MapKept.run_findKey (w := x) Try.underlying3 h1
    have e1 : ∀ x : World, x.heap[b]? = some (.map es clock) → (Instr.lookup 71 (.map (some b)) (.int .i64 a) false).run Try.prog x = .ok (.slice none 0 0) x := fun x hx => by
      simp [Instr.lookup, run_underlying Try.underlying71, MapKept.run_getObj_map hx, keyI.check x _ hkey, f x, zeroS x, Result.andThen]
    rw [e1 w hb] at h
    obtain rfl : Value.slice none 0 0 = v := by simpa using h
    exact e1 w' hb'
  · have f := fun x : World => MapKept.run_findKey (w := x) Try.underlying3 h1
    have e1 : ∀ x : World, x.heap[b]? = some (.map es clock) → (Instr.lookup 71 (.map (some b)) (.int .i64 a) false).run Try.prog x = .ok e0.val x := fun x hx => by
      simp [Instr.lookup, run_underlying Try.underlying71, MapKept.run_getObj_map hx, keyI.check x _ hkey, f x, Result.andThen]
    rw [e1 w hb] at h
    obtain rfl : e0.val = v := by simpa using h
    exact e1 w' hb'
/-- What one look-up, append and store of a round need. -/
structure Ask {H : Type} (W : World) (B n : Nat) (ds : List (Int × Int)) (g : Nat) (D : DataW H) (a : Int) (v : Value) : Prop where
  run : ∀ W' : World, W'.heap[B]? = W.heap[B]? → (Instr.lookup 71 (.map (some B)) (.int .i64 a) false).run Try.prog W' = .ok v W'
  own : W.ownsInts (B + 1) 3 .i64 v (adjD ds a)
  off : v.ownBlock ≠ some g
  back : W.groupBack (H := H) Try.prog 71 3 (B + 1) 3 .i64 B n D (.int .i64 a) (.int .i64 a) v
theorem Gr.ask {H : Type} {W : World} {B n : Nat} {ds : List (Int × Int)} {g : Nat} {D : DataW H} (h : Gr W B n ds g D) (hn : n < maxLen) (a : Int) (ha : (Lit.int .i64 a).wf = true) : ∃ v, Ask W B n ds g D a v := by
  have hk : keyOf Try.prog 3 (.int .i64 a) = some (.int .i64 a) := keyOf_int_mk Try.underlying3 ha
  have hd : (W.drew).ownsGroups (H := H) Try.prog 3 (B + 1) 3 .i64 B n D := h.own
  obtain ⟨v, zs, hrun, hat, hoi, hzl, hback⟩ := hd.at keyI Try.underlying71 (zeroS _) hn hk
  obtain rfl := h.nb.read ha hoi hat
  refine ⟨v, fun W' hW => ?_, hoi, ?_, fun w1 v' zs' hg => hback w1 v' zs' ⟨hg.os, hg.tape, hg.output, hg.size, hg.block⟩⟩
  · obtain ⟨es, clock, hb, F, _⟩ := hd
    exact look_same hb (hW.trans hb) F.keys ha hrun
  obtain ⟨es, clock, hb, F, _⟩ := hd
  rcases Maps.fit_look false keyI Try.underlying71 (zeroS _) hb F hk with ⟨hrun', _, _⟩ | ⟨e0, y, hm0, _, hrun', _, _, _⟩
  · rw [hrun] at hrun'
    obtain rfl : v = .slice none 0 0 := by simpa using hrun'
    intro hg'
    cases hg'
  · rw [hrun] at hrun'
    obtain rfl : v = e0.val := by simpa using hrun'
    exact fun hg' => h.sh es clock hb e0 hm0 g hg' rfl
/-- Behind the append: the store is known, and what it leaves. -/
theorem Ask.store {H : Type} {W W1 : World} {B n : Nat} {ds : List (Int × Int)} {g : Nat} {D : DataW H} {a b : Int} {v : Value} (h : Ask W B n ds g D a v) (hG : Gr W B n ds g D) (hn : n < maxLen) (ha : (Lit.int .i64 a).wf = true) (hbw : (Lit.int .i64 b).wf = true) (hds : ds.length ≤ n) {gg cap : Nat}
    (hown : W1.ownsRow (B + 1) 3 1 (.slice (some ⟨gg, 0, none⟩) ((adjD ds a).length + 1) cap) ((adjD ds a).length + 1) ((adjD ds a).map (Value.int .i64) ++ [.int .i64 b])) (hgr : W.grownBy W1 v.ownBlock) (hat : v.ownBlock = some gg ∨ gg = W.heap.size + 1) :
    ∃ (w2 : World) (D2 : DataW H), (Instr.mapUpdate 71 (.map (some B)) (.int .i64 a) (.slice (some ⟨gg, 0, none⟩) ((adjD ds a).length + 1) cap)).run Try.prog W1 = .ok () w2 ∧ Gr w2 B (n + 1) (ds ++ [(a, b)]) g D2 ∧ (∀ p x, p.block = g → W.cell? p = some x → w2.cell? p = some x) ∧ ∀ X, Below X W W → X ≤ W.heap.size → X ≤ B → Below X W w2 := by
  have hk : keyOf Try.prog 3 (.int .i64 a) = some (.int .i64 a) := keyOf_int_mk Try.underlying3 ha
  have ho2 := h.own.appended hown hbw
  have hlen := adjD_len ds a
  have hloc : (Value.slice (some ⟨gg, 0, none⟩) ((adjD ds a).length + 1) cap).ownBlock = v.ownBlock ∨ ∃ k, (Value.slice (some ⟨gg, 0, none⟩) ((adjD ds a).length + 1) cap).ownBlock = some k ∧ W.heap.size ≤ k := by
    rcases hat with q | q
    · exact .inl (by rw [q]; rfl)
    · exact .inr ⟨gg, rfl, by omega⟩
  have hg1 : gg ≠ g := by
    rcases hat with q | q
    · intro e; subst e; exact h.off q
    · have := hG.lt; omega
  obtain ⟨w2, hrun, r1, r2⟩ := h.back W1 _ _ hgr ho2 (by simp; omega) hloc
  have r3 : w2.Shuns B (fun k => k = g) := by
    obtain ⟨es, clock, hb, F, hs, _, hbb, _⟩ := hG.own
    have hblt : B < W.heap.size := (Array.getElem?_eq_some_iff.1 hb).1
    have hb1 : W1.heap[B]? = some (.map es clock) := (hgr.block B hblt (fun e1 => by have := (h.own.1.lt B e1.symm).1; omega)).trans hb
    obtain ⟨es', clock', hb2, hwho⟩ := stored_who keyI Try.underlying71 hb1 F (Nat.lt_of_le_of_lt hs hn) hk hrun
    intro es2 clock2 hb2' y hy k hyk
    obtain ⟨rfl, rfl⟩ : es' = es2 ∧ clock' = clock2 := by rw [hb2] at hb2'; simpa using hb2'
    rcases hwho y hy with ⟨hy0, _⟩ | ⟨_, hval⟩
    · exact hG.sh es clock hb y hy0 k hyk
    · rw [hval] at hyk
      have : gg = k := by simpa [Value.ownBlock] using hyk
      omega
  refine ⟨w2, _, hrun, ⟨r1, ?_, r3, by have := hG.lt; have := hgr.size; have := r2.size; omega, hG.ne⟩, fun p x hp hx => ?_, fun X hX hX1 hX2 => ?_⟩
  · rw [ho2.datum_pos (by simp)]
    exact hG.nb.put ha
  · have l0 : p.block < W.heap.size := by rw [hp]; exact hG.lt
    rw [r2.cell_far p (by have := hgr.size; omega) (by rw [hp]; simpa using hG.ne), hgr.cell_far p l0 (by rw [hp]; exact Ne.symm h.off)]
    exact hx
  · exact (hX.grown hgr hX1 (fun j hj => by have := (h.own.1.lt j hj).1; omega)).grown r2 (Nat.le_trans hX1 hgr.size) (fun j hj => by cases hj; exact hX2)
theorem gr_box {H : Type} {w wr w29 : World} {B n gb : Nat} {ds : List (Int × Int)} {D : DataW H} (hg : gb = wr.heap.size) (hbox : w29.heap[gb]? = some (.cells #[.int .i64 0, .int .i64 0, .int .i64 0, .int .i64 0] 46 (0, 0))) (hb : Below wr.heap.size wr w29)
    (HG : (wr.ownsGroups (H := H) Try.prog 3 (B + 1) 3 .i64 B n D ∧ NB D ds) ∧ B + 1 ≤ wr.heap.size) (hW : Below w.heap.size w wr) (a b c d : Int) :
    Gr (put4 w29 gb a b c d) B n ds gb D ∧ (put4 w29 gb a b c d).heap[gb]? = some (.cells #[.int .i64 a, .int .i64 b, .int .i64 c, .int .i64 d] 46 (0, 0)) ∧ Below w.heap.size w (put4 w29 gb a b c d) := by
  obtain ⟨⟨ho, hn⟩, hB⟩ := HG
  have hgr : wr.grownBy (put4 w29 gb a b c d) none := put4_grown hb (by omega)
  have hB2 := put4_blk (a := a) (b := b) (c := c) (d := d) hbox
  have hs : wr.Shuns B (fun k => k = gb) := (show wr.Shuns B (fun _ => False) from fun _ _ _ _ _ _ _ h => h).reno ho (fun g q => .inr (by omega))
  refine ⟨⟨ho.kept hgr (by simp) (ho.rowsAbove (by simp)), hn, hs.kept hgr (by omega) (by simp), (Array.getElem?_eq_some_iff.1 hB2).1, by omega⟩, hB2, ?_⟩
  exact put4_below (hW.trans (hb.mono hW.size)) (by have := hW.size; omega)
set_option maxHeartbeats 8000000 in
set_option maxRecDepth 100000 in
theorem neigh_calls {H : Type} (A1 : Option Addr) (c1 : Nat) (l : List Run) (w : World) (hr1 : Kd.C k46 w A1 l.length l) (hc1 : l.length ≤ c1) (hl : l.length ≤ 12) (hwf : ∀ r ∈ l, (Lit.int .i64 r.f0).wf = true ∧ (Lit.int .i64 r.f1).wf = true) :
    Calls Try.prog 52 #[.slice A1 l.length c1] w fun e w' => e = .returned (.map (some w.heap.size)) ∧ ((∃ D, w'.ownsGroups (H := H) Try.prog 3 (w.heap.size + 1) 3 .i64 w.heap.size (2 * l.length) D ∧ NB D (dirs l)) ∧ w.heap.size + 1 ≤ w'.heap.size) ∧ Below w.heap.size w w' := by
  have hmm := @run_makeMap Try.prog
  obtain ⟨i0, hi0, hz0, hz1, hz2⟩ := info_parts info_int
  have HR1 := Aside0.mk hr1
  have HC1 := Aside0.mk hc1
  have HL := Aside0.mk hl
  have HWF := Aside0.mk hwf
  clear hr1 hc1 hl hwf
  go_enter Try.func52, Try.ntmps52
  go_wp2
  go_loopw [9] (fun v9 wr => ∃ i : Nat, i ≤ l.length ∧ v9 = .int .i64 i ∧ Aside0 ((∃ D, wr.ownsGroups (H := H) Try.prog 3 (w.heap.size + 1) 3 .i64 w.heap.size (2 * i) D ∧ NB D (dirs (l.take i))) ∧ w.heap.size + 1 ≤ wr.heap.size) ∧ Aside0 (Below w.heap.size w wr)) (fun v9 _ => l.length - (intOf v9).toNat)
  case atStart => exact ⟨0, Nat.zero_le _, rfl, ⟨⟨_, World.ownsGroups_made _ _ _ _ _, by simpa [dirs] using NB.nil⟩, by simp⟩, ⟨(Below.refl _ _).alloc (Nat.le_refl _) _⟩⟩
  case round =>
    obtain ⟨i, hi, rfl, HG, HW⟩ := hrel
    by_cases hlt : i < l.length
    · have hb2 := HW.out
      obtain ⟨ad, e', x0, x1, x2, x3⟩ := at_T46 HR1.out i (by omega) (by omega)
      subst e'
      rw [Int.toNat_natCast] at x0 x1 x2 x3
      replace x0 := (hb2.cell (World.block_lt_of_cell? w _ x0)).trans x0
      replace x1 := (hb2.cell (World.block_lt_of_cell? w _ x1)).trans x1
      replace x2 := (hb2.cell (World.block_lt_of_cell? w _ x2)).trans x2
      replace x3 := (hb2.cell (World.block_lt_of_cell? w _ x3)).trans x3
      have q0 := eq_true (show (0 : Int) ≤ (i : Int) by omega)
      have q1 := eq_true (show (i : Int) < (l.length : Int) by omega)
      obtain ⟨⟨D, HG0⟩, hB⟩ := HG.out
      clear HG
      have HG := Aside0.mk (And.intro HG0 hB)
      clear HG0 hB
      go_upto_region 5 with (first | ((with_reducible refine gate_dst (N := 5) rfl ?_); (try (refine gate_guard (by rfl) ?_; dsimp only)); refine box_event ?hg (N := 5) ?hd (cs := #[.int .i64 0, .int .i64 0, .int .i64 0, .int .i64 0]) (t := 46) ?hr ?_; (case hd => rfl); (case hg => rfl); (case hr => first | (go_simp; done) | (go_simp; rfl)); intro gb hg w29 hbox hb; have KK := Aside0.mk (gr_box hg hbox hb HG.out hb2 (rd_T46 l i).f0 (rd_T46 l i).f1 (rd_T46 l i).f2 (rd_T46 l i).f3); have hcz0 : w29.cell? ⟨gb, 0, none⟩ = some (.int .i64 0) := (blk_cell hbox 0).trans rfl; have hcz1 : w29.cell? ⟨gb, 1, none⟩ = some (.int .i64 0) := (blk_cell hbox 1).trans rfl; have hcz2 : w29.cell? ⟨gb, 2, none⟩ = some (.int .i64 0) := (blk_cell hbox 2).trans rfl; have hcz3 : w29.cell? ⟨gb, 3, none⟩ = some (.int .i64 0) := (blk_cell hbox 3).trans rfl; have hfz0 := blk_frozen hbox 0; have hfz1 := blk_frozen hbox 1; have hfz2 := blk_frozen hbox 2; have hfz3 := blk_frozen hbox 3; clear hbox hb hg))
      clear hcz0 hcz1 hcz2 hcz3 hfz0 hfz1 hfz2 hfz3 x0 x1 x2 x3 hb2 HW HG
      replace KK := KK.out
      unfold put4 at KK
      generalize ((((w29.setCell ⟨gb, 0, none⟩ (.int .i64 (rd_T46 l i).f0)).setCell ⟨gb, 1, none⟩ (.int .i64 (rd_T46 l i).f1)).setCell ⟨gb, 2, none⟩ (.int .i64 (rd_T46 l i).f2)).setCell ⟨gb, 3, none⟩ (.int .i64 (rd_T46 l i).f3)) = w4 at KK ⊢
      obtain ⟨KG, Kblk, Kbe⟩ := KK
      have hT : l.take (i + 1) = l.take i ++ [rd_T46 l i] := take_rd l i hlt
      have e9 : wrap64 ((i : Int) + 1) = ((i + 1 : Nat) : Int) := by rw [nw64 (by omega) (by have := HL.out; omega)]; omega
      have hmem : rd_T46 l i ∈ l := by simp [rd_T46, hlt]
      have hwfi := HWF.out _ hmem
      have hds : (dirs (l.take i)).length ≤ 2 * i := by rw [dirs_len]; simp; omega
      have hlen1 := adjD_len (dirs (l.take i)) (rd_T46 l i).f0
      have hl12 := HL.out
      obtain ⟨v, hA⟩ := KG.ask (by unfold maxLen; omega) (rd_T46 l i).f0 hwfi.1
      have k0 : w4.cell? ⟨gb, 0, none⟩ = some (.int .i64 (rd_T46 l i).f0) := (blk_cell Kblk 0).trans rfl
      have k1 : w4.cell? ⟨gb, 1, none⟩ = some (.int .i64 (rd_T46 l i).f1) := (blk_cell Kblk 1).trans rfl
      have hrun := hA.run w4.drew rfl
      have hBlt : w.heap.size < w4.heap.size := by obtain ⟨es, clock, hb, _⟩ := KG.own; exact (Array.getElem?_eq_some_iff.1 hb).1
      have hruna := hA.run (w4.alloc (.cells #[.int .i64 (rd_T46 l i).f1] 3)).drew (heap_alloc_old w4 _ hBlt)
      have hbB : gb ≠ w.heap.size := KG.ne
      have hsz : w.heap.size + 1 ≤ w4.heap.size := by omega
      have HA := Aside0.mk hA
      have HKG := Aside0.mk KG
      have HKbe := Aside0.mk Kbe
      have HWFi := Aside0.mk hwfi
      clear hA KG Kbe hwfi
      go_region_held_law (fun w' => w'.cell? ⟨gb, 0, none⟩ = some (.int .i64 (rd_T46 l i).f0) ∧ w'.cell? ⟨gb, 1, none⟩ = some (.int .i64 (rd_T46 l i).f1))
        (first
          | (go_split_ands; refine ⟨by go_keep, by go_keep⟩)
          | (go_split_ands; exact ⟨m0, m1⟩)
          | (go_split_ands; refine ⟨?_, ?_⟩ <;> (rw [hgrow.cell_far _ (by simp; have := HKG.out.lt; omega) (Ne.symm HA.out.off)]; assumption)))
        ((refine step_append_lies _ (by rfl) _ _ _ (by rfl) (w.heap.size + 1) 3 i0 _ 1 8 Try.underlying31 hi0 hz0 hz1 hz2 rfl (by omega) v (adjD (dirs (l.take i)) (rd_T46 l i).f0).length ((adjD (dirs (l.take i)) (rd_T46 l i).f0).map (Value.int .i64)) (by rfl) ((HA.out.own.1.alloc _).drew)
            ⟨w4.heap.size, 0, none⟩ 1 1 [.int .i64 (rd_T46 l i).f1] (by rfl) (by rfl) (World.news_of_block (cs := #[.int .i64 (rd_T46 l i).f1]) (t := 3) (fr := (0, 0)) (heap_alloc_new w4 _)) (by simp [Value.oneCell'])
            (by omega) (by unfold maxLen; omega) (by omega) (by simp; omega) (w4.heap.size + 1) (by simp) ?_; intro gg cap w1 hown1 hgrow hat hlt1; obtain ⟨w2, D2, hrun2, hG2, hce, hbe⟩ := HA.out.store HKG.out (by unfold maxLen; omega) HWFi.out.1 HWFi.out.2 hds hown1 ((World.grownBy_alloc w4 _ _).trans ⟨hgrow.os, hgrow.tape, hgrow.output, hgrow.size, hgrow.block⟩) hat; have m0 := hce ⟨gb, 0, none⟩ _ rfl k0; have m1 := hce ⟨gb, 1, none⟩ _ rfl k1))
      all_goals (
        go_upto_region 6 with (fail)
        have hds2 : (dirs (l.take i) ++ [((rd_T46 l i).f0, (rd_T46 l i).f1)]).length ≤ 2 * i + 1 := by rw [List.length_append]; simp; omega
        have hlen2 := adjD_len (dirs (l.take i) ++ [((rd_T46 l i).f0, (rd_T46 l i).f1)]) (rd_T46 l i).f1
        clear k0 k1 hrun hruna hBlt hbB hsz HKG HA
        obtain ⟨v, hA⟩ := hG2.ask (by unfold maxLen; omega) (rd_T46 l i).f1 HWFi.out.2
        have hrunb := hA.run w2.drew rfl
        have hBlt2 : w.heap.size < w2.heap.size := by obtain ⟨es, clock, hb, _⟩ := hG2.own; exact (Array.getElem?_eq_some_iff.1 hb).1
        have hrunc := hA.run (w2.alloc (.cells #[.int .i64 (rd_T46 l i).f0] 3)).drew (heap_alloc_old w2 _ hBlt2)
        have hbB2 : gb ≠ w.heap.size := hG2.ne
        have hsz2 : w.heap.size + 1 ≤ w2.heap.size := by omega
        have HA2 := Aside0.mk hA
        have HKG2 := Aside0.mk hG2
        clear hA hG2
        go_region_held_law (fun w' => w'.cell? ⟨gb, 0, none⟩ = some (.int .i64 (rd_T46 l i).f0) ∧ w'.cell? ⟨gb, 1, none⟩ = some (.int .i64 (rd_T46 l i).f1))
          (first
            | (go_split_ands; refine ⟨by go_keep, by go_keep⟩)
            | (go_split_ands; exact ⟨n0, n1⟩)
            | (go_split_ands; refine ⟨?_, ?_⟩ <;> (rw [hgrow.cell_far _ (by simp; have := HKG2.out.lt; omega) (Ne.symm HA2.out.off)]; assumption)))
          ((refine step_append_lies _ (by rfl) _ _ _ (by rfl) (w.heap.size + 1) 3 i0 _ 1 8 Try.underlying31 hi0 hz0 hz1 hz2 rfl (by omega) v (adjD (dirs (l.take i) ++ [((rd_T46 l i).f0, (rd_T46 l i).f1)]) (rd_T46 l i).f1).length ((adjD (dirs (l.take i) ++ [((rd_T46 l i).f0, (rd_T46 l i).f1)]) (rd_T46 l i).f1).map (Value.int .i64)) (by rfl) ((HA2.out.own.1.alloc _).drew)
              ⟨w2.heap.size, 0, none⟩ 1 1 [.int .i64 (rd_T46 l i).f0] (by rfl) (by rfl) (World.news_of_block (cs := #[.int .i64 (rd_T46 l i).f0]) (t := 3) (fr := (0, 0)) (heap_alloc_new w2 _)) (by simp [Value.oneCell'])
              (by omega) (by unfold maxLen; omega) (by omega) (by simp; omega) (w2.heap.size + 1) (by simp) ?_; intro gg cap w1 hown1 hgrow hat hlt1; obtain ⟨w3, D3, hrun3, hG3, hce3, hbe3⟩ := HA2.out.store HKG2.out (by unfold maxLen; omega) HWFi.out.2 HWFi.out.1 hds2 hown1 ((World.grownBy_alloc w2 _ _).trans ⟨hgrow.os, hgrow.tape, hgrow.output, hgrow.size, hgrow.block⟩) hat; have n0 := hce3 ⟨gb, 0, none⟩ _ rfl m0; have n1 := hce3 ⟨gb, 1, none⟩ _ rfl m1))
        all_goals (
          go_wp2
          go_roundw
          case rel =>
            refine ⟨i + 1, by omega, by first | rfl | rw [e9], ⟨⟨D3, hG3.own, ?_⟩, ?_⟩, ⟨(HKbe.out.trans (hbe _ (Below.refl _ _) HKbe.out.size (Nat.le_refl _))).trans (hbe3 _ (Below.refl _ _) (by omega) (Nat.le_refl _))⟩⟩
            · rw [hT, dirs_snoc]; exact hG3.nb
            · obtain ⟨es, clock, hb, _⟩ := hG3.own; exact (Array.getElem?_eq_some_iff.1 hb).1
          case measure => first | exact meas_up2 hlt | exact meas_up hlt e9))
    · obtain rfl : i = l.length := by omega
      go_wp2
      go_ret
      have h := HG.out
      rw [List.take_length] at h
      exact ⟨rfl, h, HW.out⟩
end Go.Proofs.Ytbbpianfoimejaa.LinkW
