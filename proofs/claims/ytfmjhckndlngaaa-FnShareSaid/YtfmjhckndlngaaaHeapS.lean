/- The whole shares of an amount, as the program makes them: the walk. -/
import Derived.Test.YtfmjhckndlngaaaHeapI
import Derived.Deep.AppendLies
import Derived.Test.YtfmjhckndlngaaaQ2
namespace Go.Proofs.Ytfmjhckndlngaaa.HeapW
open Go.RowKit Go.Proofs.Ytfmjhckndlngaaa.Q Go.Proofs.YtfmjhckndlngaaaW.PrintWords Go.Proofs.YtfmjhckndlngaaaW.PrintLast Go.Proofs.YtfmjhckndlngaaaW.PrintMore
set_option linter.unusedVariables false
set_option linter.unusedSimpArgs false
/-- The shares so far, of the first i lengths. -/
def XS (Q : Nat → Int) (n i : Nat) : List Int := (List.range n).map (fun k => if k < i then Q k else 0)
def YS (R : Nat → Int) : Nat → List Value
  | 0 => []
  | i + 1 => YS R i ++ [.int .i64 i, .int .i64 (R i)]
def MS (Q : Nat → Int) (a1 : Int) : Nat → Int
  | 0 => a1
  | i + 1 => wrap64 (MS Q a1 i - Q i)
theorem XS_len (Q : Nat → Int) (n i : Nat) : (XS Q n i).length = n := by simp [XS]
theorem XS_zero (Q : Nat → Int) (n : Nat) : XS Q n 0 = List.replicate n 0 := by
  apply List.ext_getElem
  · simp [XS]
  · intro i h1 h2; simp [XS]
theorem XS_step (Q : Nat → Int) (n i : Nat) : (XS Q n i).set i (Q i) = XS Q n (i + 1) := by
  apply List.ext_getElem
  · simp [XS]
  · intro k h1 h2
    simp only [XS, List.getElem_set, List.getElem_map, List.getElem_range]
    by_cases e : i = k
    · subst e; rw [if_pos rfl, if_pos (by omega)]
    · rw [if_neg e]
      by_cases q : k < i
      · rw [if_pos q, if_pos (by omega)]
      · rw [if_neg q, if_neg (by omega)]
theorem YS_len (R : Nat → Int) (i : Nat) : (YS R i).length = i * 2 := by
  induction i with
  | zero => rfl
  | succ i ih => simp [YS, ih]; omega
structure Halt1 (p : Prop) : Prop where
  out : p
structure St1 (w w' : World) (n : Nat) (Q R : Nat → Int) (i : Nat) (v : Value) : Prop where
  hs : w'.ownsRow w.heap.size 3 1 (.slice (some ⟨w.heap.size, 0, none⟩) n n) n (nums .i64 (XS Q n i))
  hv : w'.cell? ⟨w.heap.size + 1 + 1, 0, none⟩ = some v
  ho : w'.ownsRow w.heap.size 52 2 v i (YS R i)
  n1 : v.ownBlock ≠ some (w.heap.size + 1 + 1)
  n2 : v.ownBlock ≠ some w.heap.size
  hf : w'.frozen? ⟨w.heap.size + 1 + 1, 0, none⟩ = false
  hb : Below w.heap.size w w'
/-- The world ahead of the append. -/
def W3 (w wr : World) (d i : Nat) (q r : Int) : World := ((wr.drewN d).setCell ⟨w.heap.size, i, none⟩ (.int .i64 q)).alloc (.cells #[.int .i64 i, .int .i64 r] 52)
theorem drewN_heap (w : World) (d : Nat) : (w.drewN d).heap = w.heap := by simp
theorem W3_size (w wr : World) (d i : Nat) (q r : Int) : (W3 w wr d i q r).heap.size = wr.heap.size + 1 := by unfold W3; simp
theorem own_drewN {w : World} {base : Nat} {e : TypeId} {size n : Nat} {v : Value} {xs : List Value} (h : w.ownsRow base e size v n xs) (d : Nat) : (w.drewN d).ownsRow base e size v n xs := own_move h (fun k _ => by rw [drewN_heap])
theorem W3_own {w wr : World} {n : Nat} {Q R : Nat → Int} {i : Nat} {v : Value} (h : St1 w wr n Q R i v) (d : Nat) (q r : Int) : (W3 w wr d i q r).ownsRow w.heap.size 52 2 v i (YS R i) := by
  unfold W3
  exact World.ownsRow.alloc (own_setCell (own_drewN h.ho d) (fun e => h.n2 e.symm) _) _
theorem W3_news (w wr : World) (d i : Nat) (q r : Int) : ∀ j u, [Value.int .i64 i, .int .i64 r][j]? = some u → (W3 w wr d i q r).cell? ((⟨wr.heap.size, 0, none⟩ : Addr).add j) = some u := by
  have hh := heap_alloc_new ((wr.drewN d).setCell ⟨w.heap.size, i, none⟩ (.int .i64 q)) (.cells #[.int .i64 i, .int .i64 r] 52)
  have hs : ((wr.drewN d).setCell ⟨w.heap.size, i, none⟩ (.int .i64 q)).heap.size = wr.heap.size := by simp
  rw [hs] at hh
  exact World.news_of_block (cs := #[.int .i64 i, .int .i64 r]) hh
theorem W3_old {w wr : World} {d i : Nat} {q r : Int} {k : Nat} (hk : k < wr.heap.size) (hne : k ≠ w.heap.size) : (W3 w wr d i q r).heap[k]? = wr.heap[k]? := by
  unfold W3
  rw [heap_alloc_old _ _ (by simpa using hk)]
  refine (Below.heap_setCell _ _ _ k (by simpa using hne)).trans ?_
  rw [drewN_heap]
theorem St1.step {w wr : World} {n : Nat} {Q R : Nat → Int} {i : Nat} {v : Value} (h : St1 w wr n Q R i v) (hi : i < n) (d : Nat) {g cap : Nat} {w4 : World}
    (ho : w4.ownsRow w.heap.size 52 2 (.slice (some ⟨g, 0, none⟩) (i + 1) cap) (i + 1) (YS R i ++ [.int .i64 i, .int .i64 (R i)])) (hg : (W3 w wr d i (Q i) (R i)).grownBy w4 v.ownBlock) (hat : v.ownBlock = some g ∨ g = wr.heap.size + 1) :
    (w4.cell? ⟨w.heap.size + 1 + 1, 0, none⟩ = some v ∧ w4.frozen? ⟨w.heap.size + 1 + 1, 0, none⟩ = false) ∧
    St1 w (w4.setCell ⟨w.heap.size + 1 + 1, 0, none⟩ (.slice (some ⟨g, 0, none⟩) (i + 1) cap)) n Q R (i + 1) (.slice (some ⟨g, 0, none⟩) (i + 1) cap) := by
  have hlt : w.heap.size + 1 + 1 < wr.heap.size := World.block_lt_of_cell? wr ⟨w.heap.size + 1 + 1, 0, none⟩ h.hv
  have hH : w4.heap[w.heap.size + 1 + 1]? = wr.heap[w.heap.size + 1 + 1]? := (hg.block _ (by rw [W3_size]; omega) (fun e => h.n1 e.symm)).trans (W3_old hlt (by omega))
  have hv4 : w4.cell? ⟨w.heap.size + 1 + 1, 0, none⟩ = some v := (World.cell?_of_block (a := ⟨w.heap.size + 1 + 1, 0, none⟩) hH).trans h.hv
  have hf4 : w4.frozen? ⟨w.heap.size + 1 + 1, 0, none⟩ = false := (World.frozen?_of_block (a := ⟨w.heap.size + 1 + 1, 0, none⟩) hH).trans h.hf
  have g1 : g ≠ w.heap.size + 1 + 1 := by
    rcases hat with q | q
    · intro e; exact h.n1 (by rw [q, e])
    · omega
  have g2 : g ≠ w.heap.size := by
    rcases hat with q | q
    · intro e; exact h.n2 (by rw [q, e])
    · omega
  refine ⟨⟨hv4, hf4⟩, ?_, World.cell?_setCell_same _ _ _ hv4, ?_, by simpa [Value.ownBlock] using g1, by simpa [Value.ownBlock] using g2, by simp [hf4, go_sem], ?_⟩
  · have s := (own_store (own_drewN h.hs d) (i : Int) (Q i)).1
    rw [Int.toNat_natCast, XS_step] at s
    have s2 := World.ownsRow.alloc s (.cells #[.int .i64 i, .int .i64 (R i)] 52)
    have s3 := World.ownsRow.kept s2 hg (by
      right
      intro e
      exact h.n2 (by rw [← e]; simp [Value.ownBlock]))
    exact own_setCell s3 (by simp [Value.ownBlock]; omega) _
  · exact own_setCell ho (by simpa [Value.ownBlock] using fun e => g1 e.symm) _
  · have b1 : Below w.heap.size w (W3 w wr d i (Q i) (R i)) := by
      unfold W3
      have hd : Below w.heap.size w (wr.drewN d) := h.hb.trans ((⟨⟨_, rfl⟩⟩ : Drawn0 wr (wr.drewN d)).below.mono h.hb.size)
      exact (hd.setCell (p := ⟨w.heap.size, i, none⟩) (by simp) _).alloc (by have := h.hb.size; simp; omega) _
    have b2 : Below w.heap.size (W3 w wr d i (Q i) (R i)) w4 := ⟨hg.os, hg.tape, hg.output, hg.size, fun k hk => hg.block k (by have := b1.size; omega) (fun e => by
      have := World.ownsRow.lt h.ho k e.symm; omega)⟩
    exact (b1.trans b2).setCell (p := ⟨w.heap.size + 1 + 1, 0, none⟩) (by simp; omega) _
/-- The remainders as they come in. -/
def rem0 (R : Nat → Int) (k : Nat) : Rem := ((k : Int), R k)
theorem YS_at (R : Nat → Int) (n k : Nat) (hk : k < n) : (YS R n)[k * 2]? = some (.int .i64 (k : Int)) ∧ (YS R n)[k * 2 + 1]? = some (.int .i64 (R k)) := by
  induction n with
  | zero => omega
  | succ n ih =>
    have hl := YS_len R n
    by_cases e : k = n
    · subst e
      unfold YS
      rw [List.getElem?_append_right (by omega), List.getElem?_append_right (by omega), hl, show k * 2 - k * 2 = 0 by omega, show k * 2 + 1 - k * 2 = 1 by omega]
      exact ⟨rfl, rfl⟩
    · have := ih (by omega)
      unfold YS
      rw [List.getElem?_append_left (by omega), List.getElem?_append_left (by omega)]
      exact this
theorem addr_add (g k : Nat) : (⟨g, 0, none⟩ : Addr).add k = ⟨g, k, none⟩ := by
  unfold Addr.add
  split
  · next h => simp_all
  · simp
theorem St1.done {w wr : World} {n : Nat} {Q R : Nat → Int} {v : Value} (h : St1 w wr n Q R n v) (hn : 0 < n) :
    ∃ g cap, v = .slice (some ⟨g, 0, none⟩) n cap ∧ HQ wr (w.heap.size + 1 + 1) g cap n (rem0 R) n ∧ n ≤ cap ∧ cap ≤ maxLen ∧ w.heap.size ≤ g ∧ g ≠ w.heap.size + 1 + 1 ∧ g ≠ w.heap.size := by
  have ho := h.ho
  rcases ho.2 with ⟨_, q⟩ | ⟨g, cap, cur, rfl, hb, hg, h1, h2, h3, h4⟩
  · omega
  · have n1 := h.n1; have n2 := h.n2
    refine ⟨g, cap, rfl, ⟨HP.mk' (fun k hk => ?_) h.hv, h.hf, (Array.getElem?_eq_some_iff.1 hg).1⟩, h1, h2, hb, fun e => n1 (by rw [e]; rfl), fun e => n2 (by rw [e]; rfl)⟩
    have c := World.ownsRow.cells ho (g := g) rfl
    have y := YS_at R n k hk
    have c0 := c _ _ y.1
    have c1 := c _ _ y.2
    rw [addr_add] at c0 c1
    exact ⟨⟨c0, c1⟩, blk_frozen hg _, blk_frozen hg _⟩
/-- The remainders when p tops are taken; the shares when p are made greater. -/
def AA (R : Nat → Int) (n : Nat) : Nat → (Nat → Rem)
  | 0 => iniR (n / 2) (rem0 R) n
  | p + 1 => topR (AA R n p) (n - p)
def SS (Q : Nat → Int) (n : Nat) (ix : Nat → Nat) : Nat → List Int
  | 0 => XS Q n n
  | p + 1 => (SS Q n ix p).set (ix p) (wrap64 (rd (SS Q n ix p) (ix p : Int) + 1))
theorem SS_len (Q : Nat → Int) (n : Nat) (ix : Nat → Nat) (p : Nat) : (SS Q n ix p).length = n := by
  induction p with
  | zero => exact XS_len Q n n
  | succ p ih => unfold SS; rw [List.length_set, ih]
structure St2 (w w' : World) (n g cap : Nat) (Q R : Nat → Int) (ix : Nat → Nat) (p : Nat) : Prop where
  hs : w'.ownsRow w.heap.size 3 1 (.slice (some ⟨w.heap.size, 0, none⟩) n n) n (nums .i64 (SS Q n ix p))
  hq : HQ w' (w.heap.size + 1 + 1) g cap (n - p) (AA R n p) n
  hb : Below w.heap.size w w'
theorem St2.ini {w wr w' : World} {n g cap : Nat} {Q R : Nat → Int} {ix : Nat → Nat} {v : Value} (h : St1 w wr n Q R n v) (hq : HQ wr (w.heap.size + 1 + 1) g cap n (rem0 R) n) (hgb : w.heap.size ≤ g) (hne : g ≠ w.heap.size + 1 + 1) (hg2 : g ≠ w.heap.size)
    (hA : HP w' (w.heap.size + 1 + 1) g cap n (iniR (n / 2) (rem0 R) n) n) (hg : wr.grownBy w' (some g)) : St2 w w' n g cap Q R ix 0 := by
  refine ⟨World.ownsRow.kept h.hs hg (by right; intro e; exact hg2 (by injection e with e; exact e.symm)), hq.swapped hne hA.arr hg, h.hb.trans ⟨hg.os, hg.tape, hg.output, hg.size, fun k hk => hg.block k (by have := h.hb.size; omega) (fun e => by injection e with e; omega)⟩⟩
theorem St2.pop {w wr w' : World} {n g cap : Nat} {Q R : Nat → Int} {ix : Nat → Nat} {p : Nat} (h : St2 w wr n g cap Q R ix p) (hgb : w.heap.size ≤ g) (hg2 : g ≠ w.heap.size)
    (hA : HQ w' (w.heap.size + 1 + 1) g cap (n - p - 1) (topR (AA R n p) (n - p)) n) (hg : G2 wr w' g (w.heap.size + 1 + 1)) :
    w'.ownsRow w.heap.size 3 1 (.slice (some ⟨w.heap.size, 0, none⟩) n n) n (nums .i64 (SS Q n ix p)) ∧ Below w.heap.size w w' := by
  have hsl : w.heap.size < wr.heap.size := (World.ownsRow.lt h.hs w.heap.size rfl).2
  refine ⟨own_move h.hs (fun k hk => ?_), h.hb.trans ⟨hg.os, hg.tape, hg.output, hg.size, fun k hk => hg.block k (by have := h.hb.size; omega) (by omega) (by omega)⟩⟩
  have : w.heap.size = k := by simpa [Value.ownBlock] using hk
  subst this
  exact hg.block _ hsl (fun e => hg2 e.symm) (by omega)
theorem HQ.moved {w w' : World} {hb g c N : Nat} {a : Nat → Rem} {m : Nat} (h : HQ w hb g c N a m) (h1 : w'.heap[g]? = w.heap[g]?) (h2 : w'.heap[hb]? = w.heap[hb]?) (h3 : w.heap.size ≤ w'.heap.size) : HQ w' hb g c N a m := by
  refine ⟨HP.mk' (fun k hk => ?_) ((World.cell?_of_block (a := ⟨hb, 0, none⟩) h2).trans h.hp.hv), (World.frozen?_of_block (a := ⟨hb, 0, none⟩) h2).trans h.fz, Nat.lt_of_lt_of_le h.gl h3⟩
  obtain ⟨⟨k0, k1⟩, e0, e1⟩ := h.hp.arr k hk
  exact ⟨⟨(World.cell?_of_block (a := ⟨g, k * 2, none⟩) h1).trans k0, (World.cell?_of_block (a := ⟨g, k * 2 + 1, none⟩) h1).trans k1⟩,
    (World.frozen?_of_block (a := ⟨g, k * 2, none⟩) h1).trans e0, (World.frozen?_of_block (a := ⟨g, k * 2 + 1, none⟩) h1).trans e1⟩
theorem St2.step {w w1 : World} {n g cap : Nat} {Q R : Nat → Int} {ix : Nat → Nat} {p : Nat} (hg2 : g ≠ w.heap.size) (hs : w1.ownsRow w.heap.size 3 1 (.slice (some ⟨w.heap.size, 0, none⟩) n n) n (nums .i64 (SS Q n ix p)))
    (hb : Below w.heap.size w w1) (hQ : HQ w1 (w.heap.size + 1 + 1) g cap (n - p - 1) (topR (AA R n p) (n - p)) n) (o : Obj) : St2 w ((w1.setCell ⟨w.heap.size, ix p, none⟩ (.int .i64 (wrap64 (rd (SS Q n ix p) (ix p : Int) + 1)))).alloc o) n g cap Q R ix (p + 1) := by
  have hH : w.heap.size + 1 + 1 < w1.heap.size := World.block_lt_of_cell? w1 ⟨w.heap.size + 1 + 1, 0, none⟩ hQ.hp.hv
  refine ⟨?_, ?_, ?_⟩
  · have s := (own_store hs (ix p : Int) (wrap64 (rd (SS Q n ix p) (ix p : Int) + 1))).1
    rw [Int.toNat_natCast] at s
    exact World.ownsRow.alloc s o
  · rw [show n - (p + 1) = n - p - 1 by omega]
    exact hQ.moved ((heap_alloc_old _ o (by simpa using hQ.gl)).trans (Below.heap_setCell _ _ _ g hg2)) ((heap_alloc_old _ o (by simpa using hH)).trans (Below.heap_setCell _ ⟨w.heap.size, ix p, none⟩ _ (w.heap.size + 1 + 1) (by simp; omega))) (by simp)
  · exact (hb.setCell (p := ⟨w.heap.size, ix p, none⟩) (Nat.le_refl _) _).alloc (by simp; omega) o
set_option maxHeartbeats 2000000 in
theorem shareOf_walk (k : Nat) (A0 : Option Addr) (c0 : Nat) (l0 : List Int) (a1 sum : Int) (Q R : Nat → Int) (w : World) (hr0 : Kd.C (Kd.int .i64) w A0 l0.length l0) (hc0 : l0.length ≤ c0)
    (hl : impl_lengthsSum.f k l0 = some (sum, true)) (hw : impl_within.f a1 10000000 = some true) (hn : 1 ≤ l0.length ∧ l0.length ≤ 20)
    (hq : ∀ i : Nat, i < l0.length → impl_floorParts.f (wrap64 (a1 * rd l0 (i : Int))) sum = some (Q i, R i))
    (mm : Nat) (ix : Nat → Nat) (hmm : MS Q a1 l0.length = (mm : Int)) (hml : mm ≤ l0.length) (hix : ∀ p, p < mm → ix p < l0.length ∧ (AA R l0.length (p + 1) (l0.length - p - 1)).1 = (ix p : Int)) :
    Calls Try.prog 19 #[.slice A0 l0.length c0, .int .i64 a1] w fun e w' => ∃ v, e = .returned (.tuple #[v, .bool true]) ∧ w'.ownsRow w.heap.size 3 1 v l0.length (nums .i64 (SS Q l0.length ix mm)) ∧ Below w.heap.size w w' := by
  obtain ⟨ad, rfl, _⟩ := Kd.at_int hr0 0 (by omega) (by omega)
  have HR0 := Aside0.mk hr0
  have HC0 := Aside0.mk hc0
  clear hr0 hc0
  have mk := print_make (P := Try.prog) 22 3 .i64 8 Try.underlying22 (by kernel_rfl) (by decide) l0.length (by omega)
  obtain ⟨i52, hi52, hz52, hs52, hb52⟩ : ∃ i, Try.prog.info? 52 = some i ∧ i.zero = some (.agg #[.int .i64 0, .int .i64 0]) ∧ i.size = 2 ∧ i.bytes = 16 :=
    ⟨(Try.prog.info? 52).get (by kernel_rfl), (Option.some_get _).symm, by kernel_rfl, by kernel_rfl, by kernel_rfl⟩
  have hta : ∀ (x y : Int) (W : World), (Instr.typeAssert (.iface 52 (.agg #[.int .i64 x, .int .i64 y])) 20 52 false).run Try.prog W = .ok (.agg #[.int .i64 x, .int .i64 y]) W := fun _ _ _ => by kernel_rfl
  go_enter Try.func19, Try.ntmps19
  go_wp2_with (first
    | ((go_at_call 33); (with_reducible refine (impl_lengthsSum.calls k _ _ l0 sum true _ (by repeat (first | exact HR0.out | refine Kd.C_drewN ?_ _ | refine Kd.C_drew ?_)) HC0.out hl).mono ?_); rintro e w1 ⟨rfl, ⟨⟨d1, rfl⟩⟩⟩)
    | ((go_at_call 34); (with_reducible refine (impl_within.calls _ _ _ _ hw).mono ?_); rintro e w1 ⟨rfl, ⟨⟨d2, rfl⟩⟩⟩))
  go_loopg [10, 37] (l0.length + 1) (fun f v10 v37 w' => ∃ (i : Nat) (v : Value), v10 = .int .i64 (MS Q a1 i) ∧ v37 = .int .i64 (i : Int) ∧ Aside0 (i ≤ l0.length ∧ f + i = l0.length + 1) ∧ Aside0 (St1 w w' l0.length Q R i v))
  case atStart =>
    refine ⟨0, .slice (some ⟨w.heap.size + 1, 0, none⟩) 0 0, rfl, rfl, ⟨by omega, by omega⟩, ⟨?_⟩⟩
    have hd : (w.drewN (d1 + d2)).heap.size = w.heap.size := by simp
    obtain ⟨W0, hW0⟩ : ∃ W0, w.drewN (d1 + d2) = W0 := ⟨_, rfl⟩
    have hB : Below w.heap.size w W0 := by rw [← hW0]; exact (⟨⟨_, rfl⟩⟩ : Drawn0 w (w.drewN (d1 + d2))).below
    rw [hW0] at hd ⊢
    have s2 : ((W0.alloc (.cells (madeCells #[.int .i64 0] l0.length) 3)).alloc (.cells #[] 52)).heap.size = w.heap.size + 1 + 1 := by simp [hd]
    have hh := heap_alloc_new ((W0.alloc (.cells (madeCells #[.int .i64 0] l0.length) 3)).alloc (.cells #[] 52)) (.cells #[.slice (some ⟨w.heap.size + 1, 0, none⟩) 0 0] 48)
    rw [s2] at hh
    refine ⟨?_, ?_, ?_, by simp [Value.ownBlock], by simp [Value.ownBlock], blk_frozen hh 0, ?_⟩
    · rw [XS_zero]
      refine World.ownsRow.alloc (World.ownsRow.alloc ?_ _) _
      have := own_made W0 w.heap.size 3 .i64 l0.length (by omega) (by omega)
      rw [hd] at this
      exact this
    · exact (World.cell?_alloc_at (c := _) (t := _) (n := w.heap.size + 1 + 1) (i := 0) (hn := by simp [hd])).trans rfl
    · refine World.ownsRow.alloc ?_ _
      have := World.ownsRow_made (W0.alloc (.cells (madeCells #[.int .i64 0] l0.length) 3)) (base := w.heap.size) (e := 52) (size := 2) #[] 0 (by simp [hd]) (by decide) (by simp)
      simp only [World.size_alloc, hd] at this
      exact this
    · exact ((hB.alloc (by omega) _).alloc (by simp; omega) _).alloc (by simp; omega) _
  case round =>
    obtain ⟨i, v, rfl, rfl, HI, HS⟩ := hrel
    have hi := HI.out.1
    by_cases c1 : i < l0.length
    · have c1b : decide ((i : Int) < (l0.length : Int)) = true := decide_eq_true (by omega)
      have p1 : (0 : Int) ≤ (i : Int) := by omega
      have p2 : (i : Int) < (l0.length : Int) := by omega
      obtain ⟨ad', e', hx⟩ := Kd.at_int HR0.out (i : Int) p1 p2
      obtain rfl : ad = ad' := by injection e'
      rw [Int.toNat_natCast] at hx
      replace hx := (HS.out.hb.cell (World.block_lt_of_cell? w _ hx)).trans hx
      obtain ⟨hc, hcf⟩ := own_at HS.out.hs (i : Int) p1 p2
      rw [Int.toNat_natCast] at hc hcf
      have hvr := HS.out.hv
      have hfr := HS.out.hf
      go_wp2_with (first | (at_builtin; refine Halt1.out ?_) | ((go_at_call 38); (with_reducible refine (impl_floorParts.calls _ _ _ _ _ (hq i c1)).mono ?_); rintro e w1 ⟨rfl, ⟨⟨d3, rfl⟩⟩⟩))
      refine Halt1.mk ?_
      refine wpList_append_lies _ (by rfl) (.tmp 60) (.tmp 64) 48 rfl w.heap.size 52 i52 (.agg #[.int .i64 0, .int .i64 0]) 2 16 (by kernel_rfl) hi52 hz52 hs52 hb52 (by decide) (by decide) v i (YS R i) (by rfl) (W3_own HS.out d3 (Q i) (R i)) ⟨wr.heap.size, 0, none⟩ 1 1 [.int .i64 i, .int .i64 (R i)] (by rfl) (by rfl) (W3_news w wr d3 i (Q i) (R i)) (by intro u hu; simp at hu; rcases hu with rfl | rfl <;> rfl) (by decide) (by unfold maxLen; omega) (by omega) (by show w.heap.size ≤ (W3 w wr d3 i (Q i) (R i)).heap.size; rw [W3_size]; have := HS.out.hb.size; omega) (wr.heap.size + 1) (W3_size _ _ _ _ _ _) ?_
      intro g4 cap4 w4 ho4 hg4 hat4 hlt4
      obtain ⟨⟨hv4, hf4⟩, HS4⟩ := St1.step HS.out c1 d3 ho4 hg4 hat4
      replace HS4 := Aside0.mk HS4
      clear ho4 hg4 hat4 hlt4
      go_wp2
      go_roundg (l0.length - i)
      case measure => have := HI.out.2; omega
      case rel => exact ⟨i + 1, .slice (some ⟨g4, 0, none⟩) (i + 1) cap4, rfl, (by first | rfl | (simp; done) | (unfold wrap64; omega)), ⟨by omega, by omega⟩, HS4⟩
    · have c1b : decide ((i : Int) < (l0.length : Int)) = false := decide_eq_false (by omega)
      obtain rfl : i = l0.length := by omega
      obtain ⟨g, cap, rfl, HQ0, hnc, hcm, hgb, hne, hg2⟩ := HS.out.done (by omega)
      replace HQ0 := Aside0.mk HQ0
      rw [hmm]
      go_wp2_with (first | ((go_at_call 39); refine Halt1.out ?_))
      refine Halt1.mk ?_
      refine (init_calls (w.heap.size + 1 + 1) g cap l0.length (rem0 R) l0.length (Nat.le_refl _) (by omega) wr HQ0.out.hp hne).mono ?_
      rintro e w1 ⟨⟨v_, rfl⟩, hA1, hg1⟩
      have HT := Aside0.mk (St2.ini (ix := ix) HS.out HQ0.out hgb hne hg2 hA1 hg1)
      clear HS HQ0 hA1 hg1 HI
      go_wp2
      go_loopg [72] (mm + 1) (fun f v72 w' => ∃ (p : Nat), v72 = .int .i64 (p : Int) ∧ Aside0 (p ≤ mm ∧ f + p = mm + 1) ∧ Aside0 (St2 w w' l0.length g cap Q R ix p))
      case atStart => exact ⟨0, rfl, ⟨by omega, by omega⟩, HT⟩
      case round =>
        clear HT
        obtain ⟨p, rfl, HI, HT⟩ := hrel
        have hp := HI.out.1
        by_cases c2 : p < mm
        · have c2b : decide ((p : Int) < (mm : Int)) = true := decide_eq_true (by omega)
          go_wp2_with (first | ((go_at_call 40); refine Halt1.out ?_))
          refine Halt1.mk ?_
          refine (hpop_calls (w.heap.size + 1 + 1) g cap (l0.length - p) (AA R l0.length p) l0.length (by omega) (by omega) (by omega) (by omega) hcm wr HT.out.hq hne).mono ?_
          rintro e w1 ⟨rfl, hQ, hG⟩
          obtain ⟨hs1, hb1⟩ := HT.out.pop hgb hg2 hQ hG
          obtain ⟨hi1, hi2⟩ := hix p c2
          rw [show (topR (AA R l0.length p) (l0.length - p) (l0.length - p - 1)).1 = (ix p : Int) from hi2]
          obtain ⟨hc, hcf⟩ := own_at hs1 (ix p : Int) (by omega) (by omega)
          rw [Int.toNat_natCast] at hc hcf
          have p1 : (0 : Int) ≤ (ix p : Int) := by omega
          have p2 : (ix p : Int) < (l0.length : Int) := by omega
          have hsz : w.heap.size < w1.heap.size := World.block_lt_of_cell? w1 ⟨w.heap.size, ix p, none⟩ hc
          have hc2 : ∀ o, (w1.alloc o).cell? ⟨w.heap.size, ix p, none⟩ = some (.int .i64 (rd (SS Q l0.length ix p) (ix p : Int))) := fun o => (World.cell?_of_block (a := ⟨w.heap.size, ix p, none⟩) (heap_alloc_old w1 o hsz)).trans hc
          have hcf2 : ∀ o, (w1.alloc o).frozen? ⟨w.heap.size, ix p, none⟩ = false := fun o => (World.frozen?_of_block (a := ⟨w.heap.size, ix p, none⟩) (heap_alloc_old w1 o hsz)).trans hcf
          have HS2 := Aside0.mk (St2.step (o := .cells #[.int .i64 (ix p : Int), .int .i64 (topR (AA R l0.length p) (l0.length - p) (l0.length - p - 1)).2] 52) hg2 hs1 hb1 hQ)
          clear HT hs1 hb1 hQ hG hi2
          go_wp2
          go_roundg (mm - p)
          case measure => have := HI.out.2; omega
          case rel => exact ⟨p + 1, (by first | rfl | (simp; done) | (unfold wrap64; omega)), ⟨by omega, by omega⟩, HS2⟩
        · have c2b : decide ((p : Int) < (mm : Int)) = false := decide_eq_false (by omega)
          obtain rfl : p = mm := by omega
          go_wp2
          go_ret2
          exact ⟨_, rfl, HT.out.hs, HT.out.hb⟩
end Go.Proofs.Ytfmjhckndlngaaa.HeapW
