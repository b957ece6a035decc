/- The remainders of shares as a heap: what its own methods do. -/
import Derived.Test.YtfmjhckndlngaaaQ0
import Derived.BigRegion
import Derived.BigQuiet
namespace Go.Proofs.Ytfmjhckndlngaaa.HeapW
open Go.RowKit Go.Proofs.Ytfmjhckndlngaaa.Q Go.Proofs.YtfmjhckndlngaaaW.PrintWords Go.Proofs.YtfmjhckndlngaaaW.PrintLast Go.Proofs.YtfmjhckndlngaaaW.PrintMore
set_option linter.unusedVariables false
set_option linter.unusedSimpArgs false
abbrev Rem := Int × Int
/-- What is served first: the greater remainder, of equal ones the lesser index. -/
def lessR (x y : Rem) : Bool := if x.2 ≠ y.2 then decide (y.2 < x.2) else decide (x.1 < y.1)
/-- The remainders a 0 .. a (m - 1) lie in block g. -/
def Arr (w : World) (g : Nat) (a : Nat → Rem) (m : Nat) : Prop := ∀ k, k < m → (w.cell? ⟨g, k * 2, none⟩ = some (.int .i64 (a k).1) ∧ w.cell? ⟨g, k * 2 + 1, none⟩ = some (.int .i64 (a k).2)) ∧ w.frozen? ⟨g, k * 2, none⟩ = false ∧ w.frozen? ⟨g, k * 2 + 1, none⟩ = false
theorem len_calls (A : Option Addr) (n c : Nat) (w : World) : Calls Try.prog 63 #[.slice A n c] w fun e w' => e = .returned (.int .i64 n) ∧ Drawn0 w w' := by
  go_enter Try.func63, Try.ntmps63
  go_wp2
  go_ret
  exact ⟨by first | rfl | (simp; done) | (simp [*]; done), by repeat (first | exact Drawn0.refl _ | apply Drawn0.step)⟩
theorem less_calls (g n c : Nat) (a : Nat → Rem) (i j : Nat) (hi : i < n) (hj : j < n) (w : World) (h : Arr w g a n) :
    Calls Try.prog 64 #[.slice (some ⟨g, 0, none⟩) n c, .int .i64 i, .int .i64 j] w fun e w' => e = .returned (.bool (lessR (a i) (a j))) ∧ Drawn0 w w' := by
  obtain ⟨⟨h0, h1⟩, _⟩ := h i hi
  obtain ⟨⟨h2, h3⟩, _⟩ := h j hj
  unfold lessR
  generalize (a i).1 = xi at *
  generalize (a i).2 = li at *
  generalize (a j).1 = xj at *
  generalize (a j).2 = lj at *
  go_enter Try.func64, Try.ntmps64
  have p1 : (0 : Int) ≤ (i : Int) := by omega
  have p2 : (0 : Int) ≤ (j : Int) := by omega
  have p3 : (i : Int) < (n : Int) := by omega
  have p4 : (j : Int) < (n : Int) := by omega
  by_cases c : li = lj
  · have c1 : (li != lj) = false := by simp [c]
    have c2 : (li == lj) = true := by simp [c]
    go_wp2
    go_quiet (fail)
    go_wp2
    go_quiet (fail)
    go_wp2
    go_ret
    exact ⟨rfl, by repeat (first | exact Drawn0.refl _ | apply Drawn0.step)⟩
  · have c1 : (li != lj) = true := by simp [c]
    have c2 : (li == lj) = false := by simp [c]
    go_wp2
    go_quiet (fail)
    go_wp2
    go_quiet (fail)
    go_wp2
    go_ret
    exact ⟨rfl, by repeat (first | exact Drawn0.refl _ | apply Drawn0.step)⟩
def swpR (a : Nat → Rem) (i j k : Nat) : Rem := if k = j then a i else if k = i then a j else a k
theorem cset {w : World} {g p q : Nat} {v u : Value} (h : w.cell? ⟨g, q, none⟩ = some u) : (w.setCell ⟨g, p, none⟩ v).cell? ⟨g, q, none⟩ = some (if p = q then v else u) := by
  by_cases e : p = q
  · subst e; rw [if_pos rfl]; exact World.cell?_setCell_same _ _ _ h
  · rw [if_neg e, World.cell?_setCell_other (h := fun k => e (by injection k)), h]
theorem World.cell?_drew' (w : World) (p : Addr) : w.drew.cell? p = w.cell? p := rfl
theorem grown_refl (w : World) (g : Option Nat) : w.grownBy w g := ⟨rfl, rfl, rfl, Nat.le_refl _, fun _ _ _ => rfl⟩
theorem grown_set {w w1 : World} {g : Nat} (h : w.grownBy w1 (some g)) (p : Nat) (v : Value) : w.grownBy (w1.setCell ⟨g, p, none⟩ v) (some g) :=
  ⟨h.os, h.tape, h.output, by have := h.size; simp; exact this, fun k hk hne => (Below.heap_setCell w1 ⟨g, p, none⟩ v k (fun e => hne (by rw [e]))).trans (h.block k hk hne)⟩
theorem grown_drew {w w1 : World} {g : Option Nat} (h : w.grownBy w1 g) : w.grownBy w1.drew g := ⟨h.os, h.tape, h.output, h.size, h.block⟩
theorem grown_alloc {w w1 : World} {g : Option Nat} (h : w.grownBy w1 g) (o : Obj) : w.grownBy (w1.alloc o) g :=
  ⟨h.os, h.tape, h.output, by have := h.size; simp; omega, fun k hk hne => (heap_alloc_old w1 o (by have := h.size; omega)).trans (h.block k hk hne)⟩
theorem swap_calls (g n c : Nat) (a : Nat → Rem) (m : Nat) (i j : Nat) (hi : i < n) (hj : j < n) (hm : n ≤ m) (w : World) (h : Arr w g a m) :
    Calls Try.prog 66 #[.slice (some ⟨g, 0, none⟩) n c, .int .i64 i, .int .i64 j] w fun e w' => (∃ v, e = .returned v) ∧ Arr w' g (swpR a i j) m ∧ w.grownBy w' (some g) := by
  obtain ⟨⟨h0, h1⟩, f0, f1⟩ := h i (by omega)
  obtain ⟨⟨h2, h3⟩, f2, f3⟩ := h j (by omega)
  go_enter Try.func66, Try.ntmps66
  have p1 : (0 : Int) ≤ (i : Int) := by omega
  have p2 : (0 : Int) ≤ (j : Int) := by omega
  have p3 : (i : Int) < (n : Int) := by omega
  have p4 : (j : Int) < (n : Int) := by omega
  obtain ⟨x, hx⟩ := cell?_setCell_some (w := w) (p := ⟨g, i * 2, none⟩) (x := .int .i64 (a j).1) (q := ⟨g, j * 2, none⟩) h2
  obtain ⟨y0, hy0⟩ := cell?_setCell_some (w := w) (p := ⟨g, i * 2, none⟩) (x := .int .i64 (a j).1) (q := ⟨g, j * 2 + 1, none⟩) h3
  obtain ⟨y, hy⟩ := cell?_setCell_some (p := ⟨g, i * 2 + 1, none⟩) (x := .int .i64 (a j).2) hy0
  go_wp2
  go_region
  go_end0
  refine ⟨⟨_, rfl⟩, fun k hk => ?_, ?_⟩
  · obtain ⟨⟨k0, k1⟩, e0, e1⟩ := h k hk
    have c0 := cset (p := j * 2 + 1) (v := .int .i64 (a i).2) (cset (p := j * 2) (v := .int .i64 (a i).1) (cset (p := i * 2 + 1) (v := .int .i64 (a j).2) (cset (p := i * 2) (v := .int .i64 (a j).1) k0)))
    have c1 := cset (p := j * 2 + 1) (v := .int .i64 (a i).2) (cset (p := j * 2) (v := .int .i64 (a i).1) (cset (p := i * 2 + 1) (v := .int .i64 (a j).2) (cset (p := i * 2) (v := .int .i64 (a j).1) k1)))
    refine ⟨⟨?_, ?_⟩, ?_, ?_⟩
    · rw [World.cell?_drew', c0]
      unfold swpR
      by_cases q : k = j
      · subst q
        rw [if_neg (show ¬ k * 2 + 1 = k * 2 by omega), if_pos rfl, if_pos rfl]
      · rw [if_neg (show ¬ j * 2 + 1 = k * 2 by omega), if_neg (show ¬ j * 2 = k * 2 by omega), if_neg (show ¬ i * 2 + 1 = k * 2 by omega), if_neg q]
        by_cases q2 : k = i
        · subst q2; rw [if_pos rfl, if_pos rfl]
        · rw [if_neg (show ¬ i * 2 = k * 2 by omega), if_neg q2]
    · rw [World.cell?_drew', c1]
      unfold swpR
      by_cases q : k = j
      · subst q
        rw [if_pos rfl, if_pos rfl]
      · rw [if_neg (show ¬ j * 2 + 1 = k * 2 + 1 by omega), if_neg (show ¬ j * 2 = k * 2 + 1 by omega), if_neg q]
        by_cases q2 : k = i
        · subst q2; rw [if_pos rfl, if_pos rfl]
        · rw [if_neg (show ¬ i * 2 + 1 = k * 2 + 1 by omega), if_neg (show ¬ i * 2 = k * 2 + 1 by omega), if_neg q2]
    · simp [e0, go_sem]
    · simp [e1, go_sem]
  · exact grown_drew (grown_set (grown_set (grown_set (grown_set (grown_refl _ _) _ _) _ _) _ _) _ _)
theorem pop_calls (hb g n c : Nat) (a : Nat → Rem) (m : Nat) (hn : 0 < n) (hm : n ≤ m) (hc : n ≤ c) (hcl : c ≤ maxLen) (w : World) (h : Arr w g a m) (hg : g < w.heap.size) (hv : w.cell? ⟨hb, 0, none⟩ = some (.slice (some ⟨g, 0, none⟩) n c)) (hf : w.frozen? ⟨hb, 0, none⟩ = false) (hne : g ≠ hb) :
    Calls Try.prog 65 #[.pointer (some ⟨hb, 0, none⟩)] w fun e w' => e = .returned (.iface 52 (.agg #[.int .i64 (a (n - 1)).1, .int .i64 (a (n - 1)).2])) ∧
      Arr w' g a m ∧ w'.cell? ⟨hb, 0, none⟩ = some (.slice (some ⟨g, 0, none⟩) (n - 1 : Nat) c) ∧ w'.frozen? ⟨hb, 0, none⟩ = false ∧ w.grownBy w' (some hb) := by
  obtain ⟨⟨h0, h1⟩, f0, f1⟩ := h (n - 1) (by omega)
  have p0 : wrap64 ((n : Int) - 1) = ((n - 1 : Nat) : Int) := by unfold maxLen at hcl; unfold wrap64; omega
  have p1 : (0 : Int) ≤ ((n - 1 : Nat) : Int) := by omega
  have p2 : ((n - 1 : Nat) : Int) < (n : Int) := by omega
  have p3 : ((n - 1 : Nat) : Int) ≤ (c : Int) := by omega
  have p4 : (0 : Int) ≤ (n : Int) - 1 := by omega
  have p5 : (n : Int) - 1 < (n : Int) := by omega
  have p6 : (n : Int) - 1 ≤ (c : Int) := by omega
  have hlt : hb < w.heap.size := World.block_lt_of_cell? w ⟨hb, 0, none⟩ hv
  have hv2 : ∀ o, (w.alloc o).cell? ⟨hb, 0, none⟩ = some (.slice (some ⟨g, 0, none⟩) n c) := fun o => (World.cell?_of_block (a := ⟨hb, 0, none⟩) (heap_alloc_old w o hlt)).trans hv
  have hf2 : ∀ o, (w.alloc o).frozen? ⟨hb, 0, none⟩ = false := fun o => (World.frozen?_of_block (a := ⟨hb, 0, none⟩) (heap_alloc_old w o hlt)).trans hf
  go_enter Try.func65, Try.ntmps65
  go_wp2
  go_ret
  refine ⟨rfl, fun k hk => ?_, ?_, ?_, ?_⟩
  · obtain ⟨⟨k0, k1⟩, e0, e1⟩ := h k hk
    have far : ∀ q : Nat, ((w.setCell ⟨hb, 0, none⟩ (.slice (some ⟨g, 0, none⟩) (n - 1) c)).alloc (.cells #[.int .i64 (a (n - 1)).1, .int .i64 (a (n - 1)).2] 52)).heap[g]? = w.heap[g]? := fun q =>
      (heap_alloc_old _ _ (by simpa using hg)).trans (Below.heap_setCell w ⟨hb, 0, none⟩ _ g hne)
    exact ⟨⟨(World.cell?_of_block (a := ⟨g, k * 2, none⟩) (far 0)).trans k0, (World.cell?_of_block (a := ⟨g, k * 2 + 1, none⟩) (far 0)).trans k1⟩,
      (World.frozen?_of_block (a := ⟨g, k * 2, none⟩) (far 0)).trans e0, (World.frozen?_of_block (a := ⟨g, k * 2 + 1, none⟩) (far 0)).trans e1⟩
  · refine (World.cell?_of_block (a := ⟨hb, 0, none⟩) (heap_alloc_old _ _ (by simpa using hlt))).trans ?_
    exact World.cell?_setCell_same _ _ _ hv
  · refine (World.frozen?_of_block (a := ⟨hb, 0, none⟩) (heap_alloc_old _ _ (by simpa using hlt))).trans ?_
    simp [hf, go_sem]
  · exact grown_alloc (grown_set (grown_refl _ _) _ _) _
end Go.Proofs.Ytfmjhckndlngaaa.HeapW
