/- Part 5 of what the proof of this law rests on: the functions of the translation as plain Lean functions with their walks, and the plain laws behind. -/
import Derived.BigQuiet
import Derived.BigRegion
import Derived.Deep.AppendLies
import Derived.Test.YtmcfhmflncghiaaMFnShareNet4
namespace Go.Proofs.Ytmcfhmflncghiaa.HeapW
open Go.RowKit Go.Proofs.Ytmcfhmflncghiaa.Q Go.Proofs.YtmcfhmflncghiaaW.PrintWords Go.Proofs.YtmcfhmflncghiaaW.PrintLast Go.Proofs.YtmcfhmflncghiaaW.PrintMore
set_option linter.unusedVariables false
set_option linter.unusedSimpArgs false
abbrev Rem := Int × Int
/-- What is served first: the greater remainder, of equal ones the lesser index. -/
def lessR (x y : Rem) : Bool := if x.2 ≠ y.2 then decide (y.2 < x.2) else decide (x.1 < y.1)
/-- The remainders a 0 .. a (m - 1) lie in block g. -/
def Arr (w : World) (g : Nat) (a : Nat → Rem) (m : Nat) : Prop := ∀ k, k < m → (w.cell? ⟨g, k * 2, none⟩ = some (.int .i64 (a k).1) ∧ w.cell? ⟨g, k * 2 + 1, none⟩ = some (.int .i64 (a k).2)) ∧ w.frozen? ⟨g, k * 2, none⟩ = false ∧ w.frozen? ⟨g, k * 2 + 1, none⟩ = false
theorem len_calls (A : Option Addr) (n c : Nat) (w : World) : Calls Try.prog 86 #[.slice A n c] w fun e w' => e = .returned (.int .i64 n) ∧ Drawn0 w w' := by
  go_enter Try.func86, Try.ntmps86
  go_wp2
  go_ret
  exact ⟨qq9, qq16⟩
theorem less_calls (g n c : Nat) (a : Nat → Rem) (i j : Nat) (hi : i < n) (hj : j < n) (w : World) (h : Arr w g a n) :
    Calls Try.prog 87 #[.slice (some ⟨g, 0, none⟩) n c, .int .i64 i, .int .i64 j] w fun e w' => e = .returned (.bool (lessR (a i) (a j))) ∧ Drawn0 w w' := by
  obtain ⟨⟨h0, h1⟩, _⟩ := h i hi
  obtain ⟨⟨h2, h3⟩, _⟩ := h j hj
  unfold lessR
  generalize (a i).1 = xi at *
  generalize (a i).2 = li at *
  generalize (a j).1 = xj at *
  generalize (a j).2 = lj at *
  go_enter Try.func87, Try.ntmps87
  have p1 : (0 : Int) ≤ (i : Int) := by omega
  have p2 : (0 : Int) ≤ (j : Int) := by omega
  have p3 : (i : Int) < (n : Int) := by omega
  have p4 : (j : Int) < (n : Int) := by omega
  by_cases c : li = lj
  · have c1 : (li != lj) = false := by simp [c]
    have c2 : (li == lj) = true := by simp [c]
    go_wp2
    go_quiet (fail)
    go_wp2
    go_quiet (fail)
    go_wp2
    go_ret
    exact ⟨rfl, qq16⟩
  · have c1 : (li != lj) = true := by simp [c]
    have c2 : (li == lj) = false := by simp [c]
    go_wp2
    go_quiet (fail)
    go_wp2
    go_quiet (fail)
    go_wp2
    go_ret
    exact ⟨rfl, qq16⟩
def swpR (a : Nat → Rem) (i j k : Nat) : Rem := if k = j then a i else if k = i then a j else a k
theorem cset {w : World} {g p q : Nat} {v u : Value} (h : w.cell? ⟨g, q, none⟩ = some u) : (w.setCell ⟨g, p, none⟩ v).cell? ⟨g, q, none⟩ = some (if p = q then v else u) := by
  by_cases e : p = q
  · subst e; rw [if_pos rfl]; exact World.cell?_setCell_same _ _ _ h
  · rw [if_neg e, World.cell?_setCell_other (h := fun k => e (by injection k)), h]
theorem World.cell?_drew' (w : World) (p : Addr) : w.drew.cell? p = w.cell? p := rfl
theorem grown_refl (w : World) (g : Option Nat) : w.grownBy w g := ⟨rfl, rfl, rfl, Nat.le_refl _, fun _ _ _ => rfl⟩
theorem grown_set {w w1 : World} {g : Nat} (h : w.grownBy w1 (some g)) (p : Nat) (v : Value) : w.grownBy (w1.setCell ⟨g, p, none⟩ v) (some g) :=
  ⟨h.os, h.tape, h.output, by have := h.size; simp; exact this, fun k hk hne => (Below.heap_setCell w1 ⟨g, p, none⟩ v k (fun e => hne (by rw [e]))).trans (h.block k hk hne)⟩
theorem grown_drew {w w1 : World} {g : Option Nat} (h : w.grownBy w1 g) : w.grownBy w1.drew g := ⟨h.os, h.tape, h.output, h.size, h.block⟩
theorem grown_alloc {w w1 : World} {g : Option Nat} (h : w.grownBy w1 g) (o : Obj) : w.grownBy (w1.alloc o) g :=
  ⟨h.os, h.tape, h.output, by have := h.size; simp; omega, fun k hk hne => (heap_alloc_old w1 o (by have := h.size; omega)).trans (h.block k hk hne)⟩
theorem swap_calls (g n c : Nat) (a : Nat → Rem) (m : Nat) (i j : Nat) (hi : i < n) (hj : j < n) (hm : n ≤ m) (w : World) (h : Arr w g a m) :
    Calls Try.prog 89 #[.slice (some ⟨g, 0, none⟩) n c, .int .i64 i, .int .i64 j] w fun e w' => (∃ v, e = .returned v) ∧ Arr w' g (swpR a i j) m ∧ w.grownBy w' (some g) := by
  obtain ⟨⟨h0, h1⟩, f0, f1⟩ := h i (by omega)
  obtain ⟨⟨h2, h3⟩, f2, f3⟩ := h j (by omega)
  go_enter Try.func89, Try.ntmps89
  have p1 : (0 : Int) ≤ (i : Int) := by omega
  have p2 : (0 : Int) ≤ (j : Int) := by omega
  have p3 : (i : Int) < (n : Int) := by omega
  have p4 : (j : Int) < (n : Int) := by omega
  obtain ⟨x, hx⟩ := cell?_setCell_some (w := w) (p := ⟨g, i * 2, none⟩) (x := .int .i64 (a j).1) (q := ⟨g, j * 2, none⟩) h2
  obtain ⟨y0, hy0⟩ := cell?_setCell_some (w := w) (p := ⟨g, i * 2, none⟩) (x := .int .i64 (a j).1) (q := ⟨g, j * 2 + 1, none⟩) h3
  obtain ⟨y, hy⟩ := cell?_setCell_some (p := ⟨g, i * 2 + 1, none⟩) (x := .int .i64 (a j).2) hy0
  go_wp2
  go_region
  go_end0
  refine ⟨⟨_, rfl⟩, fun k hk => ?_, ?_⟩
  · obtain ⟨⟨k0, k1⟩, e0, e1⟩ := h k hk
    have c0 := cset (p := j * 2 + 1) (v := .int .i64 (a i).2) (cset (p := j * 2) (v := .int .i64 (a i).1) (cset (p := i * 2 + 1) (v := .int .i64 (a j).2) (cset (p := i * 2) (v := .int .i64 (a j).1) k0)))
    have c1 := cset (p := j * 2 + 1) (v := .int .i64 (a i).2) (cset (p := j * 2) (v := .int .i64 (a i).1) (cset (p := i * 2 + 1) (v := .int .i64 (a j).2) (cset (p := i * 2) (v := .int .i64 (a j).1) k1)))
    refine ⟨⟨?_, ?_⟩, ?_, ?_⟩
    · rw [World.cell?_drew', c0]
      unfold swpR
      by_cases q : k = j
      · subst q
        rw [if_neg (show ¬ k * 2 + 1 = k * 2 by omega), if_pos rfl, if_pos rfl]
      · rw [if_neg (show ¬ j * 2 + 1 = k * 2 by omega), if_neg (show ¬ j * 2 = k * 2 by omega), if_neg (show ¬ i * 2 + 1 = k * 2 by omega), if_neg q]
        by_cases q2 : k = i
        · subst q2; rw [if_pos rfl, if_pos rfl]
        · rw [if_neg (show ¬ i * 2 = k * 2 by omega), if_neg q2]
    · rw [World.cell?_drew', c1]
      unfold swpR
      by_cases q : k = j
      · subst q
        rw [if_pos rfl, if_pos rfl]
      · rw [if_neg (show ¬ j * 2 + 1 = k * 2 + 1 by omega), if_neg (show ¬ j * 2 = k * 2 + 1 by omega), if_neg q]
        by_cases q2 : k = i
        · subst q2; rw [if_pos rfl, if_pos rfl]
        · rw [if_neg (show ¬ i * 2 + 1 = k * 2 + 1 by omega), if_neg (show ¬ i * 2 = k * 2 + 1 by omega), if_neg q2]
    · simp [e0, go_sem]
    · simp [e1, go_sem]
  · exact grown_drew (grown_set (grown_set (grown_set (grown_set (grown_refl _ _) _ _) _ _) _ _) _ _)
theorem pop_calls (hb g n c : Nat) (a : Nat → Rem) (m : Nat) (hn : 0 < n) (hm : n ≤ m) (hc : n ≤ c) (hcl : c ≤ maxLen) (w : World) (h : Arr w g a m) (hg : g < w.heap.size) (hv : w.cell? ⟨hb, 0, none⟩ = some (.slice (some ⟨g, 0, none⟩) n c)) (hf : w.frozen? ⟨hb, 0, none⟩ = false) (hne : g ≠ hb) :
    Calls Try.prog 88 #[.pointer (some ⟨hb, 0, none⟩)] w fun e w' => e = .returned (.iface 77 (.agg #[.int .i64 (a (n - 1)).1, .int .i64 (a (n - 1)).2])) ∧
      Arr w' g a m ∧ w'.cell? ⟨hb, 0, none⟩ = some (.slice (some ⟨g, 0, none⟩) (n - 1 : Nat) c) ∧ w'.frozen? ⟨hb, 0, none⟩ = false ∧ w.grownBy w' (some hb) := by
  obtain ⟨⟨h0, h1⟩, f0, f1⟩ := h (n - 1) (by omega)
  have p0 : wrap64 ((n : Int) - 1) = ((n - 1 : Nat) : Int) := by unfold maxLen at hcl; unfold wrap64; omega
  have p1 : (0 : Int) ≤ ((n - 1 : Nat) : Int) := by omega
  have p2 : ((n - 1 : Nat) : Int) < (n : Int) := by omega
  have p3 : ((n - 1 : Nat) : Int) ≤ (c : Int) := by omega
  have p4 : (0 : Int) ≤ (n : Int) - 1 := by omega
  have p5 : (n : Int) - 1 < (n : Int) := by omega
  have p6 : (n : Int) - 1 ≤ (c : Int) := by omega
  have hlt : hb < w.heap.size := World.block_lt_of_cell? w ⟨hb, 0, none⟩ hv
  have hv2 : ∀ o, (w.alloc o).cell? ⟨hb, 0, none⟩ = some (.slice (some ⟨g, 0, none⟩) n c) := fun o => (World.cell?_of_block (a := ⟨hb, 0, none⟩) (heap_alloc_old w o hlt)).trans hv
  have hf2 : ∀ o, (w.alloc o).frozen? ⟨hb, 0, none⟩ = false := fun o => (World.frozen?_of_block (a := ⟨hb, 0, none⟩) (heap_alloc_old w o hlt)).trans hf
  go_enter Try.func88, Try.ntmps88
  go_wp2
  go_ret
  refine ⟨rfl, fun k hk => ?_, ?_, ?_, ?_⟩
  · obtain ⟨⟨k0, k1⟩, e0, e1⟩ := h k hk
    have far : ∀ q : Nat, ((w.setCell ⟨hb, 0, none⟩ (.slice (some ⟨g, 0, none⟩) (n - 1) c)).alloc (.cells #[.int .i64 (a (n - 1)).1, .int .i64 (a (n - 1)).2] 77)).heap[g]? = w.heap[g]? := fun q =>
      (heap_alloc_old _ _ (by simpa using hg)).trans (Below.heap_setCell w ⟨hb, 0, none⟩ _ g hne)
    exact ⟨⟨(World.cell?_of_block (a := ⟨g, k * 2, none⟩) (far 0)).trans k0, (World.cell?_of_block (a := ⟨g, k * 2 + 1, none⟩) (far 0)).trans k1⟩,
      (World.frozen?_of_block (a := ⟨g, k * 2, none⟩) (far 0)).trans e0, (World.frozen?_of_block (a := ⟨g, k * 2 + 1, none⟩) (far 0)).trans e1⟩
  · refine (World.cell?_of_block (a := ⟨hb, 0, none⟩) (heap_alloc_old _ _ (by simpa using hlt))).trans ?_
    exact World.cell?_setCell_same _ _ _ hv
  · refine (World.frozen?_of_block (a := ⟨hb, 0, none⟩) (heap_alloc_old _ _ (by simpa using hlt))).trans ?_
    simp [hf, go_sem]
  · exact grown_alloc (grown_set (grown_refl _ _) _ _) _
end Go.Proofs.Ytmcfhmflncghiaa.HeapW
namespace Go.Proofs.Ytmcfhmflncghiaa.HeapW
open Go.RowKit Go.Proofs.Ytmcfhmflncghiaa.Q Go.Proofs.YtmcfhmflncghiaaW.PrintWords Go.Proofs.YtmcfhmflncghiaaW.PrintLast Go.Proofs.YtmcfhmflncghiaaW.PrintMore
set_option linter.unusedVariables false
set_option linter.unusedSimpArgs false
set_option maxRecDepth 100000
theorem meth0 (k hb : Nat) (w : World) {v : Value} (hv : w.cell? ⟨hb, 0, none⟩ = some v) : (method (k + 1) 71 (.pointer (some ⟨hb, 0, none⟩)) "Less").run Try.prog w = .ok (87, v) w := by
  have h0 : (Array.find? (fun x => x.name == "Less") Try.t71.methods).isSome = true := by kernel_rfl
  have e1 : Array.find? (fun x => x.name == "Less") Try.t71.methods = some ((Array.find? (fun x => x.name == "Less") Try.t71.methods).get h0) := (Option.some_get h0).symm
  have e2 : ((Array.find? (fun x => x.name == "Less") Try.t71.methods).get h0).path = #[] := by kernel_rfl
  have e3 : ((Array.find? (fun x => x.name == "Less") Try.t71.methods).get h0).func = some (87, false) := by kernel_rfl
  generalize (Array.find? (fun x => x.name == "Less") Try.t71.methods).get h0 = mm at e1 e2 e3
  clear h0
  unfold method
  go_simp
  have f1 : (follow [] 71 (Place.val (.pointer (some ⟨hb, 0, none⟩)))).run Try.prog w = .ok (71, Place.val (.pointer (some ⟨hb, 0, none⟩))) w := rfl
  rw [f1]
  simp only [Result.andThen_ok]
  unfold receiverAt
  go_simp
  have f2 : (Place.get 71 (Place.val (.pointer (some ⟨hb, 0, none⟩)))).run Try.prog w = .ok (.pointer (some ⟨hb, 0, none⟩)) w := rfl
  rw [f2]
  simp only [Result.andThen_ok]
  have f3 : ∀ s1 s2 : String, (Builtin.ssaWrapNilChk_ #[71] 71 #[.pointer (some ⟨hb, 0, none⟩), strVal s1, strVal s2]).run Try.prog w = .ok (.pointer (some ⟨hb, 0, none⟩)) w := fun _ _ => rfl
  rw [f3]
  go_simp
theorem meth1 (k hb : Nat) (w : World) {v : Value} (hv : w.cell? ⟨hb, 0, none⟩ = some v) : (method (k + 1) 71 (.pointer (some ⟨hb, 0, none⟩)) "Swap").run Try.prog w = .ok (89, v) w := by
  have h0 : (Array.find? (fun x => x.name == "Swap") Try.t71.methods).isSome = true := by kernel_rfl
  have e1 : Array.find? (fun x => x.name == "Swap") Try.t71.methods = some ((Array.find? (fun x => x.name == "Swap") Try.t71.methods).get h0) := (Option.some_get h0).symm
  have e2 : ((Array.find? (fun x => x.name == "Swap") Try.t71.methods).get h0).path = #[] := by kernel_rfl
  have e3 : ((Array.find? (fun x => x.name == "Swap") Try.t71.methods).get h0).func = some (89, false) := by kernel_rfl
  generalize (Array.find? (fun x => x.name == "Swap") Try.t71.methods).get h0 = mm at e1 e2 e3
  clear h0
  unfold method
  go_simp
  have f1 : (follow [] 71 (Place.val (.pointer (some ⟨hb, 0, none⟩)))).run Try.prog w = .ok (71, Place.val (.pointer (some ⟨hb, 0, none⟩))) w := rfl
  rw [f1]
  simp only [Result.andThen_ok]
  unfold receiverAt
  go_simp
  have f2 : (Place.get 71 (Place.val (.pointer (some ⟨hb, 0, none⟩)))).run Try.prog w = .ok (.pointer (some ⟨hb, 0, none⟩)) w := rfl
  rw [f2]
  simp only [Result.andThen_ok]
  have f3 : ∀ s1 s2 : String, (Builtin.ssaWrapNilChk_ #[71] 71 #[.pointer (some ⟨hb, 0, none⟩), strVal s1, strVal s2]).run Try.prog w = .ok (.pointer (some ⟨hb, 0, none⟩)) w := fun _ _ => rfl
  rw [f3]
  go_simp
theorem meth2 (k hb : Nat) (w : World) {v : Value} (hv : w.cell? ⟨hb, 0, none⟩ = some v) : (method (k + 1) 71 (.pointer (some ⟨hb, 0, none⟩)) "Len").run Try.prog w = .ok (86, v) w := by
  have h0 : (Array.find? (fun x => x.name == "Len") Try.t71.methods).isSome = true := by kernel_rfl
  have e1 : Array.find? (fun x => x.name == "Len") Try.t71.methods = some ((Array.find? (fun x => x.name == "Len") Try.t71.methods).get h0) := (Option.some_get h0).symm
  have e2 : ((Array.find? (fun x => x.name == "Len") Try.t71.methods).get h0).path = #[] := by kernel_rfl
  have e3 : ((Array.find? (fun x => x.name == "Len") Try.t71.methods).get h0).func = some (86, false) := by kernel_rfl
  generalize (Array.find? (fun x => x.name == "Len") Try.t71.methods).get h0 = mm at e1 e2 e3
  clear h0
  unfold method
  go_simp
  have f1 : (follow [] 71 (Place.val (.pointer (some ⟨hb, 0, none⟩)))).run Try.prog w = .ok (71, Place.val (.pointer (some ⟨hb, 0, none⟩))) w := rfl
  rw [f1]
  simp only [Result.andThen_ok]
  unfold receiverAt
  go_simp
  have f2 : (Place.get 71 (Place.val (.pointer (some ⟨hb, 0, none⟩)))).run Try.prog w = .ok (.pointer (some ⟨hb, 0, none⟩)) w := rfl
  rw [f2]
  simp only [Result.andThen_ok]
  have f3 : ∀ s1 s2 : String, (Builtin.ssaWrapNilChk_ #[71] 71 #[.pointer (some ⟨hb, 0, none⟩), strVal s1, strVal s2]).run Try.prog w = .ok (.pointer (some ⟨hb, 0, none⟩)) w := fun _ _ => rfl
  rw [f3]
  go_simp
theorem meth3 (k : Nat) (p : Addr) (w : World) : (method (k + 1) 71 (.pointer (some p)) "Pop").run Try.prog w = .ok (88, .pointer (some p)) w := by kernel_rfl
end Go.Proofs.Ytmcfhmflncghiaa.HeapW
namespace Go.Proofs.Ytmcfhmflncghiaa.HeapW
open Go.RowKit Go.Proofs.Ytmcfhmflncghiaa.Q Go.Proofs.YtmcfhmflncghiaaW.PrintWords Go.Proofs.YtmcfhmflncghiaaW.PrintLast Go.Proofs.YtmcfhmflncghiaaW.PrintMore
set_option linter.unusedVariables false
set_option linter.unusedSimpArgs false
/-- Sinking, so far as f steps. -/
def dnR : Nat → (Nat → Rem) → Nat → Nat → (Nat → Rem)
  | 0, a, _, _ => a
  | f + 1, a, i, n =>
    if n ≤ 2 * i + 1 then a else
    let j := if 2 * i + 2 < n ∧ lessR (a (2 * i + 2)) (a (2 * i + 1)) = true then 2 * i + 2 else 2 * i + 1
    if lessR (a j) (a i) = true then dnR f (swpR a i j) j n else a
/-- The heap as it lies: its header in block hb, the remainders in block g. -/
structure HP (w : World) (hb g c N : Nat) (a : Nat → Rem) (m : Nat) : Prop where
  arr : Arr w g a m
  hv : w.cell? ⟨hb, 0, none⟩ = some (.slice (some ⟨g, 0, none⟩) N c)
  hm0 : (method 216 71 (.pointer (some ⟨hb, 0, none⟩)) "Less").run Try.prog w = .ok (87, .slice (some ⟨g, 0, none⟩) N c) w
  hm1 : (method 216 71 (.pointer (some ⟨hb, 0, none⟩)) "Swap").run Try.prog w = .ok (89, .slice (some ⟨g, 0, none⟩) N c) w
  hm2 : (method 216 71 (.pointer (some ⟨hb, 0, none⟩)) "Len").run Try.prog w = .ok (86, .slice (some ⟨g, 0, none⟩) N c) w
theorem HP.mk' {w : World} {hb g c N : Nat} {a : Nat → Rem} {m : Nat} (h : Arr w g a m) (hv : w.cell? ⟨hb, 0, none⟩ = some (.slice (some ⟨g, 0, none⟩) N c)) : HP w hb g c N a m :=
  ⟨h, hv, meth0 (216 - 1) hb w hv, meth1 (216 - 1) hb w hv, meth2 (216 - 1) hb w hv⟩
theorem arr_drawn {w w' : World} {g : Nat} {a : Nat → Rem} {m : Nat} (h : Arr w g a m) (hd : Drawn0 w w') : Arr w' g a m := by
  obtain ⟨k, rfl⟩ := hd.out
  intro i hi
  have := h i hi
  simpa using this
theorem HP.drawn {w w' : World} {hb g c N : Nat} {a : Nat → Rem} {m : Nat} (h : HP w hb g c N a m) (hd : Drawn0 w w') : HP w' hb g c N a m := by
  refine HP.mk' (arr_drawn h.arr hd) ?_
  obtain ⟨k, rfl⟩ := hd.out
  simpa using h.hv
theorem grown_drawn {w w1 w2 : World} {g : Option Nat} (h : w.grownBy w1 g) (hd : Drawn0 w1 w2) : w.grownBy w2 g := by
  have b := hd.below
  obtain ⟨k, rfl⟩ := hd.out
  exact ⟨b.os.trans h.os, b.tape.trans h.tape, b.output.trans h.output, Nat.le_trans h.size b.size, fun q hq hne => (b.block q (Nat.lt_of_lt_of_le hq h.size)).trans (h.block q hq hne)⟩
theorem grown_trans {w w1 w2 : World} {g : Nat} (h : w.grownBy w1 (some g)) (k : w1.grownBy w2 (some g)) : w.grownBy w2 (some g) :=
  ⟨k.os.trans h.os, k.tape.trans h.tape, k.output.trans h.output, Nat.le_trans h.size k.size, fun q hq hne => (k.block q (Nat.lt_of_lt_of_le hq h.size) hne).trans (h.block q hq hne)⟩
theorem less_callsI (g n c : Nat) (a : Nat → Rem) (i j : Nat) (x y : Int) (ex : (i : Int) = x) (ey : (j : Int) = y) (hi : i < n) (hj : j < n) (w : World) (h : Arr w g a n) {b : Bool} (hb : lessR (a i) (a j) = b) :
    Calls Try.prog 87 #[.slice (some ⟨g, 0, none⟩) n c, .int .i64 x, .int .i64 y] w fun e w' => e = .returned (.bool b) ∧ Drawn0 w w' := by
  subst ex ey hb
  exact less_calls g n c a i j hi hj w h
theorem swap_callsI (g n c : Nat) (a : Nat → Rem) (m : Nat) (i j : Nat) (x y : Int) (ex : (i : Int) = x) (ey : (j : Int) = y) (hi : i < n) (hj : j < n) (hm : n ≤ m) (w : World) (h : Arr w g a m) :
    Calls Try.prog 89 #[.slice (some ⟨g, 0, none⟩) n c, .int .i64 x, .int .i64 y] w fun e w' => (∃ v, e = .returned v) ∧ Arr w' g (swpR a i j) m ∧ w.grownBy w' (some g) := by
  subst ex ey
  exact swap_calls g n c a m i j hi hj hm w h
theorem arr_le {w : World} {g : Nat} {a : Nat → Rem} {m n : Nat} (h : Arr w g a m) (hn : n ≤ m) : Arr w g a n := fun k hk => h k (by omega)
theorem HP.swapped {w w' : World} {hb g c N : Nat} {a a' : Nat → Rem} {m : Nat} (h : HP w hb g c N a m) (hne : g ≠ hb) (hA : Arr w' g a' m) (hg : w.grownBy w' (some g)) : HP w' hb g c N a' m :=
  HP.mk' hA ((World.cell?_of_block (a := ⟨hb, 0, none⟩) (hg.block hb (World.block_lt_of_cell? w ⟨hb, 0, none⟩ h.hv) (fun e => hne (by injection e with e; exact e.symm)))).trans h.hv)
set_option maxHeartbeats 1000000 in
theorem down_calls (hb g c N : Nat) (a : Nat → Rem) (m : Nat) (i n : Nat) (hn : n ≤ N) (hm : N ≤ m) (hs : m ≤ 1000) (hi : i ≤ 1000) (w : World) (h : HP w hb g c N a m) (hne : g ≠ hb) :
    Calls Try.prog 67 #[.iface 71 (.pointer (some ⟨hb, 0, none⟩)), .int .i64 i, .int .i64 n] w fun e w' => (∃ v, e = .returned v) ∧ HP w' hb g c N (dnR n a i n) m ∧ w.grownBy w' (some g) := by
  have HP0 := Aside0.mk h
  clear h
  go_enter Try.func67, Try.ntmps67
  go_wp2
  go_loopg [7] n (fun f v7 w' => ∃ (i' : Nat) (a' : Nat → Rem), v7 = .int .i64 i' ∧ Aside0 (i' ≤ 1000 ∧ n ≤ i' + f) ∧ Aside0 (HP w' hb g c N a' m) ∧ Aside0 (w.grownBy w' (some g)) ∧ Aside0 (dnR n a i n = dnR f a' i' n))
  case atStart => exact ⟨i, a, rfl, ⟨hi, by omega⟩, HP0, ⟨grown_refl _ _⟩, ⟨rfl⟩⟩
  case round =>
    obtain ⟨i', a', rfl, HI, HA, HG, HD⟩ := hrel
    clear HP0
    have hi' := HI.out.1
    have q1 : (0 : Int) ≤ (i' : Int) := by omega
    by_cases c1 : n ≤ 2 * i' + 1
    · have c1b : decide ((n : Int) ≤ 2 * (i' : Int) + 1) = true := decide_eq_true (by omega)
      go_wp2
      go_ret
      have e : dnR gk a' i' n = a' := by
        cases gk with
        | zero => rfl
        | succ k => rw [dnR, if_pos c1]
      exact ⟨⟨_, rfl⟩, qq75, HG.out⟩
    · have c1b : decide ((n : Int) ≤ 2 * (i' : Int) + 1) = false := decide_eq_false (by omega)
      have c1c : decide (2 * (i' : Int) + 1 < 0) = false := decide_eq_false (by omega)
      obtain ⟨k, rfl⟩ : ∃ k, gk = k + 1 := ⟨gk - 1, by have := HI.out.2; omega⟩
      have f1 : ((2 * i' + 1 : Nat) : Int) = 2 * (i' : Int) + 1 := by omega
      have f2 : ((2 * i' + 2 : Nat) : Int) = 2 * (i' : Int) + 1 + 1 := by omega
      have hm0 := HA.out.hm0
      have hm1 := HA.out.hm1
      by_cases c2 : 2 * i' + 2 < n
      · have c2b : decide (2 * (i' : Int) + 1 + 1 < (n : Int)) = true := decide_eq_true (by omega)
        cases c3 : lessR (a' (2 * i' + 2)) (a' (2 * i' + 1))
        · have je : (if 2 * i' + 2 < n ∧ lessR (a' (2 * i' + 2)) (a' (2 * i' + 1)) = true then 2 * i' + 2 else 2 * i' + 1) = 2 * i' + 1 := if_neg (fun q => by rw [c3] at q; exact absurd q.2 (by decide))
          cases c4 : lessR (a' (2 * i' + 1)) (a' i')
          · go_wp2_with (first | ((go_at_call 87); (with_reducible refine (less_callsI g N c a' (2 * i' + 2) (2 * i' + 1) _ _ f2 f1 (by omega) (by omega) _ (arr_le HA.out.arr hm) c3).mono ?_); rintro e w1 ⟨rfl, hd⟩; have n0_ := Aside0.mk (HA.out.drawn hd); have n1_ := Aside0.mk (grown_drawn HG.out hd); clear HA HG hm0 hm1 hd; have HA := n0_; have HG := n1_; have hm0 := HA.out.hm0; have hm1 := HA.out.hm1; clear n0_ n1_) | ((go_at_call 87); (with_reducible refine (less_callsI g N c a' (2 * i' + 1) i' _ _ f1 rfl (by omega) (by omega) _ (arr_le HA.out.arr hm) c4).mono ?_); rintro e w1 ⟨rfl, hd⟩; have n0_ := Aside0.mk (HA.out.drawn hd); have n1_ := Aside0.mk (grown_drawn HG.out hd); clear HA HG hm0 hm1 hd; have HA := n0_; have HG := n1_; have hm0 := HA.out.hm0; have hm1 := HA.out.hm1; clear n0_ n1_))
            go_ret
            have e : dnR (k + 1) a' i' n = a' := by rw [dnR, if_neg c1]; simp only [je]; rw [if_neg (by rw [c4]; decide)]
            exact ⟨⟨_, rfl⟩, qq75, HG.out⟩
          · go_wp2_with (first | ((go_at_call 87); (with_reducible refine (less_callsI g N c a' (2 * i' + 2) (2 * i' + 1) _ _ f2 f1 (by omega) (by omega) _ (arr_le HA.out.arr hm) c3).mono ?_); rintro e w1 ⟨rfl, hd⟩; have n0_ := Aside0.mk (HA.out.drawn hd); have n1_ := Aside0.mk (grown_drawn HG.out hd); clear HA HG hm0 hm1 hd; have HA := n0_; have HG := n1_; have hm0 := HA.out.hm0; have hm1 := HA.out.hm1; clear n0_ n1_) | ((go_at_call 87); (with_reducible refine (less_callsI g N c a' (2 * i' + 1) i' _ _ f1 rfl (by omega) (by omega) _ (arr_le HA.out.arr hm) c4).mono ?_); rintro e w1 ⟨rfl, hd⟩; have n0_ := Aside0.mk (HA.out.drawn hd); have n1_ := Aside0.mk (grown_drawn HG.out hd); clear HA HG hm0 hm1 hd; have HA := n0_; have HG := n1_; have hm0 := HA.out.hm0; have hm1 := HA.out.hm1; clear n0_ n1_) | ((go_at_call 89); (with_reducible refine (swap_callsI g N c a' m i' (2 * i' + 1) _ _ rfl f1 (by omega) (by omega) hm _ HA.out.arr).mono ?_); rintro e w1 ⟨⟨v_, rfl⟩, hA2, hg2⟩; have n0_ := Aside0.mk (HA.out.swapped hne hA2 hg2); have n1_ := Aside0.mk (grown_trans HG.out hg2); clear HA HG hm0 hm1 hA2 hg2; have HA := n0_; have HG := n1_; have hm0 := HA.out.hm0; have hm1 := HA.out.hm1; clear n0_ n1_))
            have e : dnR (k + 1) a' i' n = dnR k (swpR a' i' (2 * i' + 1)) (2 * i' + 1) n := by rw [dnR, if_neg c1]; simp only [je]; rw [if_pos c4]
            go_roundg k
            case measure => omega
            case rel => exact ⟨(2 * i' + 1), swpR a' i' (2 * i' + 1), (by first | rfl | (rw [f1]) | (simp [f1])), ⟨by omega, by have := HI.out.2; omega⟩, HA, HG, ⟨HD.out.trans e⟩⟩
        · have je : (if 2 * i' + 2 < n ∧ lessR (a' (2 * i' + 2)) (a' (2 * i' + 1)) = true then 2 * i' + 2 else 2 * i' + 1) = 2 * i' + 2 := if_pos ⟨c2, c3⟩
          cases c4 : lessR (a' (2 * i' + 2)) (a' i')
          · go_wp2_with (first | ((go_at_call 87); (with_reducible refine (less_callsI g N c a' (2 * i' + 2) (2 * i' + 1) _ _ f2 f1 (by omega) (by omega) _ (arr_le HA.out.arr hm) c3).mono ?_); rintro e w1 ⟨rfl, hd⟩; have n0_ := Aside0.mk (HA.out.drawn hd); have n1_ := Aside0.mk (grown_drawn HG.out hd); clear HA HG hm0 hm1 hd; have HA := n0_; have HG := n1_; have hm0 := HA.out.hm0; have hm1 := HA.out.hm1; clear n0_ n1_) | ((go_at_call 87); (with_reducible refine (less_callsI g N c a' (2 * i' + 2) i' _ _ f2 rfl (by omega) (by omega) _ (arr_le HA.out.arr hm) c4).mono ?_); rintro e w1 ⟨rfl, hd⟩; have n0_ := Aside0.mk (HA.out.drawn hd); have n1_ := Aside0.mk (grown_drawn HG.out hd); clear HA HG hm0 hm1 hd; have HA := n0_; have HG := n1_; have hm0 := HA.out.hm0; have hm1 := HA.out.hm1; clear n0_ n1_))
            go_ret
            have e : dnR (k + 1) a' i' n = a' := by rw [dnR, if_neg c1]; simp only [je]; rw [if_neg (by rw [c4]; decide)]
            exact ⟨⟨_, rfl⟩, qq75, HG.out⟩
          · go_wp2_with (first | ((go_at_call 87); (with_reducible refine (less_callsI g N c a' (2 * i' + 2) (2 * i' + 1) _ _ f2 f1 (by omega) (by omega) _ (arr_le HA.out.arr hm) c3).mono ?_); rintro e w1 ⟨rfl, hd⟩; have n0_ := Aside0.mk (HA.out.drawn hd); have n1_ := Aside0.mk (grown_drawn HG.out hd); clear HA HG hm0 hm1 hd; have HA := n0_; have HG := n1_; have hm0 := HA.out.hm0; have hm1 := HA.out.hm1; clear n0_ n1_) | ((go_at_call 87); (with_reducible refine (less_callsI g N c a' (2 * i' + 2) i' _ _ f2 rfl (by omega) (by omega) _ (arr_le HA.out.arr hm) c4).mono ?_); rintro e w1 ⟨rfl, hd⟩; have n0_ := Aside0.mk (HA.out.drawn hd); have n1_ := Aside0.mk (grown_drawn HG.out hd); clear HA HG hm0 hm1 hd; have HA := n0_; have HG := n1_; have hm0 := HA.out.hm0; have hm1 := HA.out.hm1; clear n0_ n1_) | ((go_at_call 89); (with_reducible refine (swap_callsI g N c a' m i' (2 * i' + 2) _ _ rfl f2 (by omega) (by omega) hm _ HA.out.arr).mono ?_); rintro e w1 ⟨⟨v_, rfl⟩, hA2, hg2⟩; have n0_ := Aside0.mk (HA.out.swapped hne hA2 hg2); have n1_ := Aside0.mk (grown_trans HG.out hg2); clear HA HG hm0 hm1 hA2 hg2; have HA := n0_; have HG := n1_; have hm0 := HA.out.hm0; have hm1 := HA.out.hm1; clear n0_ n1_))
            have e : dnR (k + 1) a' i' n = dnR k (swpR a' i' (2 * i' + 2)) (2 * i' + 2) n := by rw [dnR, if_neg c1]; simp only [je]; rw [if_pos c4]
            go_roundg k
            case measure => omega
            case rel => exact ⟨(2 * i' + 2), swpR a' i' (2 * i' + 2), (by first | rfl | (rw [f2]) | (simp [f2])), ⟨by omega, by have := HI.out.2; omega⟩, HA, HG, ⟨HD.out.trans e⟩⟩
      · have c2b : decide (2 * (i' : Int) + 1 + 1 < (n : Int)) = false := decide_eq_false (by omega)
        have je : (if 2 * i' + 2 < n ∧ lessR (a' (2 * i' + 2)) (a' (2 * i' + 1)) = true then 2 * i' + 2 else 2 * i' + 1) = 2 * i' + 1 := if_neg (fun q => c2 q.1)
        cases c4 : lessR (a' (2 * i' + 1)) (a' i')
        · go_wp2_with (first | ((go_at_call 87); (with_reducible refine (less_callsI g N c a' (2 * i' + 1) i' _ _ f1 rfl (by omega) (by omega) _ (arr_le HA.out.arr hm) c4).mono ?_); rintro e w1 ⟨rfl, hd⟩; have n0_ := Aside0.mk (HA.out.drawn hd); have n1_ := Aside0.mk (grown_drawn HG.out hd); clear HA HG hm0 hm1 hd; have HA := n0_; have HG := n1_; have hm0 := HA.out.hm0; have hm1 := HA.out.hm1; clear n0_ n1_))
          go_ret
          have e : dnR (k + 1) a' i' n = a' := by rw [dnR, if_neg c1]; simp only [je]; rw [if_neg (by rw [c4]; decide)]
          exact ⟨⟨_, rfl⟩, qq75, HG.out⟩
        · go_wp2_with (first | ((go_at_call 87); (with_reducible refine (less_callsI g N c a' (2 * i' + 1) i' _ _ f1 rfl (by omega) (by omega) _ (arr_le HA.out.arr hm) c4).mono ?_); rintro e w1 ⟨rfl, hd⟩; have n0_ := Aside0.mk (HA.out.drawn hd); have n1_ := Aside0.mk (grown_drawn HG.out hd); clear HA HG hm0 hm1 hd; have HA := n0_; have HG := n1_; have hm0 := HA.out.hm0; have hm1 := HA.out.hm1; clear n0_ n1_) | ((go_at_call 89); (with_reducible refine (swap_callsI g N c a' m i' (2 * i' + 1) _ _ rfl f1 (by omega) (by omega) hm _ HA.out.arr).mono ?_); rintro e w1 ⟨⟨v_, rfl⟩, hA2, hg2⟩; have n0_ := Aside0.mk (HA.out.swapped hne hA2 hg2); have n1_ := Aside0.mk (grown_trans HG.out hg2); clear HA HG hm0 hm1 hA2 hg2; have HA := n0_; have HG := n1_; have hm0 := HA.out.hm0; have hm1 := HA.out.hm1; clear n0_ n1_))
          have e : dnR (k + 1) a' i' n = dnR k (swpR a' i' (2 * i' + 1)) (2 * i' + 1) n := by rw [dnR, if_neg c1]; simp only [je]; rw [if_pos c4]
          go_roundg k
          case measure => omega
          case rel => exact ⟨(2 * i' + 1), swpR a' i' (2 * i' + 1), (by first | rfl | (rw [f1]) | (simp [f1])), ⟨by omega, by have := HI.out.2; omega⟩, HA, HG, ⟨HD.out.trans e⟩⟩
end Go.Proofs.Ytmcfhmflncghiaa.HeapW
namespace Go.Proofs.Ytmcfhmflncghiaa.HeapW
open Go.RowKit Go.Proofs.Ytmcfhmflncghiaa.Q Go.Proofs.YtmcfhmflncghiaaW.PrintWords Go.Proofs.YtmcfhmflncghiaaW.PrintLast Go.Proofs.YtmcfhmflncghiaaW.PrintMore
set_option linter.unusedVariables false
set_option linter.unusedSimpArgs false
def iniR : Nat → (Nat → Rem) → Nat → (Nat → Rem)
  | 0, a, _ => a
  | k + 1, a, n => iniR k (dnR n a k n) n
theorem down_callsI (hb g c N : Nat) (a : Nat → Rem) (m : Nat) (i n : Nat) (x y : Int) (ex : (i : Int) = x) (ey : (n : Int) = y) (hn : n ≤ N) (hm : N ≤ m) (hs : m ≤ 1000) (hi : i ≤ 1000) (w : World) (h : HP w hb g c N a m) (hne : g ≠ hb) :
    Calls Try.prog 67 #[.iface 71 (.pointer (some ⟨hb, 0, none⟩)), .int .i64 x, .int .i64 y] w fun e w' => (∃ v, e = .returned v) ∧ HP w' hb g c N (dnR n a i n) m ∧ w.grownBy w' (some g) := by
  subst ex ey
  exact down_calls hb g c N a m i n hn hm hs hi w h hne
theorem init_calls (hb g c N : Nat) (a : Nat → Rem) (m : Nat) (hm : N ≤ m) (hs : m ≤ 1000) (w : World) (h : HP w hb g c N a m) (hne : g ≠ hb) :
    Calls Try.prog 58 #[.iface 71 (.pointer (some ⟨hb, 0, none⟩))] w fun e w' => (∃ v, e = .returned v) ∧ HP w' hb g c N (iniR (N / 2) a N) m ∧ w.grownBy w' (some g) := by
  have HA := Aside0.mk h
  have HG := Aside0.mk (grown_refl w (some g))
  have hm2 := h.hm2
  clear h
  have e0 : (N : Int).tdiv 2 = ((N / 2 : Nat) : Int) := by simp
  have e1 : N / 2 ≤ N := Nat.div_le_self N 2
  obtain ⟨K, hK⟩ : ∃ K, N / 2 = K := ⟨_, rfl⟩
  rw [hK] at e0 e1 ⊢
  clear hK
  go_enter Try.func58, Try.ntmps58
  go_wp2_with (first | ((go_at_call 86); (with_reducible refine (len_calls _ _ _ _).mono ?_); rintro e w1 ⟨rfl, hd⟩; have n0_ := Aside0.mk (HA.out.drawn hd); have n1_ := Aside0.mk (grown_drawn HG.out hd); clear HA HG hm2 hd; have HA := n0_; have HG := n1_; clear n0_ n1_))
  go_loopg [3] (K + 1) (fun f v3 w' => ∃ (k : Nat) (a' : Nat → Rem), v3 = .int .i64 ((k : Int) - 1) ∧ Aside0 (k ≤ K ∧ f = k + 1) ∧ Aside0 (HP w' hb g c N a' m) ∧ Aside0 (w.grownBy w' (some g)) ∧ Aside0 (iniR K a N = iniR k a' N))
  case atStart => exact ⟨K, a, (by first | rfl | (simp [e0]; done) | (simp [e0]; omega)), ⟨Nat.le_refl _, rfl⟩, HA, HG, ⟨rfl⟩⟩
  case round =>
    obtain ⟨k, a', rfl, HI, HA2, HG2, HD⟩ := hrel
    clear HA HG
    have HA := HA2
    have HG := HG2
    clear HA2 HG2
    cases k with
    | zero =>
      have c1 : decide ((0 : Int) ≤ ((0 : Nat) : Int) - 1) = false := by decide
      go_wp2
      go_end0
      exact ⟨⟨_, rfl⟩, by rw [HD.out]; exact HA.out, HG.out⟩
    | succ k =>
      have hk := HI.out.1
      have hgk := HI.out.2
      have c1 : decide ((0 : Int) ≤ ((k + 1 : Nat) : Int) - 1) = true := decide_eq_true (by omega)
      have c2 : ((k + 1 : Nat) : Int) - 1 = (k : Int) := by omega
      go_wp2_with (first | ((go_at_call 67); (with_reducible refine (down_callsI hb g c N a' m k N _ _ (by omega) rfl (Nat.le_refl _) hm hs (by omega) _ HA.out hne).mono ?_); rintro e w1 ⟨⟨v_, rfl⟩, hA2, hg2⟩; have n0_ := Aside0.mk hA2; have n1_ := Aside0.mk (grown_trans HG.out hg2); clear HA HG hA2 hg2; have HA := n0_; have HG := n1_; clear n0_ n1_))
      go_roundg (k + 1)
      case measure => omega
      case rel => exact ⟨k, dnR N a' k N, (by first | rfl | (simp; done) | (simp; omega)), ⟨by omega, rfl⟩, HA, HG, ⟨HD.out⟩⟩
/-- All but two blocks stay. -/
structure G2 (w w' : World) (g hb : Nat) : Prop where
  os : w'.os = w.os
  tape : w'.tape = w.tape
  output : w'.output = w.output
  size : w.heap.size ≤ w'.heap.size
  block : ∀ k, k < w.heap.size → k ≠ g → k ≠ hb → w'.heap[k]? = w.heap[k]?
theorem G2.of {w w' : World} {g hb : Nat} (h : w.grownBy w' (some g)) : G2 w w' g hb := ⟨h.os, h.tape, h.output, h.size, fun k hk h1 _ => h.block k hk (fun e => h1 (by injection e))⟩
theorem G2.of' {w w' : World} {g hb : Nat} (h : w.grownBy w' (some hb)) : G2 w w' g hb := ⟨h.os, h.tape, h.output, h.size, fun k hk _ h2 => h.block k hk (fun e => h2 (by injection e))⟩
theorem G2.drawn {w w1 w2 : World} {g hb : Nat} (h : G2 w w1 g hb) (hd : Drawn0 w1 w2) : G2 w w2 g hb := by
  have b := hd.below
  exact ⟨b.os.trans h.os, b.tape.trans h.tape, b.output.trans h.output, Nat.le_trans h.size b.size, fun q hq h1 h2 => (b.block q (Nat.lt_of_lt_of_le hq h.size)).trans (h.block q hq h1 h2)⟩
theorem G2.trans {w w1 w2 : World} {g hb : Nat} (h : G2 w w1 g hb) (k : G2 w1 w2 g hb) : G2 w w2 g hb :=
  ⟨k.os.trans h.os, k.tape.trans h.tape, k.output.trans h.output, Nat.le_trans h.size k.size, fun q hq h1 h2 => (k.block q (Nat.lt_of_lt_of_le hq h.size) h1 h2).trans (h.block q hq h1 h2)⟩
theorem G2.refl (w : World) (g hb : Nat) : G2 w w g hb := ⟨rfl, rfl, rfl, Nat.le_refl _, fun _ _ _ _ => rfl⟩
/-- What is left when the top is taken. -/
def topR (a : Nat → Rem) (N : Nat) : Nat → Rem := dnR (N - 1) (swpR a 0 (N - 1)) 0 (N - 1)
structure HQ (w : World) (hb g c N : Nat) (a : Nat → Rem) (m : Nat) : Prop where
  hp : HP w hb g c N a m
  fz : w.frozen? ⟨hb, 0, none⟩ = false
  gl : g < w.heap.size
theorem HQ.drawn {w w' : World} {hb g c N : Nat} {a : Nat → Rem} {m : Nat} (h : HQ w hb g c N a m) (hd : Drawn0 w w') : HQ w' hb g c N a m := by
  refine ⟨h.hp.drawn hd, ?_, Nat.lt_of_lt_of_le h.gl hd.below.size⟩
  obtain ⟨k, rfl⟩ := hd.out
  simpa using h.fz
theorem HQ.swapped {w w' : World} {hb g c N : Nat} {a a' : Nat → Rem} {m : Nat} (h : HQ w hb g c N a m) (hne : g ≠ hb) (hA : Arr w' g a' m) (hg : w.grownBy w' (some g)) : HQ w' hb g c N a' m :=
  ⟨h.hp.swapped hne hA hg, (World.frozen?_of_block (a := ⟨hb, 0, none⟩) (hg.block hb (World.block_lt_of_cell? w ⟨hb, 0, none⟩ h.hp.hv) (fun e => hne (by injection e with e; exact e.symm)))).trans h.fz, Nat.lt_of_lt_of_le h.gl hg.size⟩
theorem hpop_calls (hb g c N : Nat) (a : Nat → Rem) (m : Nat) (h0 : 0 < N) (hm : N ≤ m) (hs : m ≤ 1000) (hc : N ≤ c) (hcl : c ≤ maxLen) (w : World) (h : HQ w hb g c N a m) (hne : g ≠ hb) :
    Calls Try.prog 59 #[.iface 71 (.pointer (some ⟨hb, 0, none⟩))] w fun e w' => e = .returned (.iface 77 (.agg #[.int .i64 (topR a N (N - 1)).1, .int .i64 (topR a N (N - 1)).2])) ∧
      HQ w' hb g c (N - 1) (topR a N) m ∧ G2 w w' g hb := by
  obtain ⟨n, rfl⟩ : ∃ n, N = n + 1 := ⟨N - 1, by omega⟩
  have HA := Aside0.mk h
  have HG := Aside0.mk (G2.refl w g hb)
  have hm1 := h.hp.hm1
  have hm2 := h.hp.hm2
  have hm3 : ∀ w, (method 216 71 (.pointer (some ⟨hb, 0, none⟩)) "Pop").run Try.prog w = .ok (88, .pointer (some ⟨hb, 0, none⟩)) w := fun w => meth3 (216 - 1) _ w
  clear h
  have e1 : ((n + 1 : Nat) : Int) - 1 = (n : Int) := by omega
  go_enter Try.func59, Try.ntmps59
  go_wp2_with (first
    | ((go_at_call 86); (with_reducible refine (len_calls _ _ _ _).mono ?_); rintro e w1 ⟨rfl, hd⟩; have n0_ := Aside0.mk (HA.out.drawn hd); have n1_ := Aside0.mk (G2.drawn HG.out hd); clear HA HG hm1 hm2 hd; have HA := n0_; have HG := n1_; have hm1 := HA.out.hp.hm1; clear n0_ n1_)
    | ((go_at_call 89); (with_reducible refine (swap_callsI g (n + 1) c a m 0 n _ _ (by omega) (by omega) (by omega) (by omega) hm _ HA.out.hp.arr).mono ?_); rintro e w1 ⟨⟨v_, rfl⟩, hA2, hg2⟩; have n0_ := Aside0.mk (HA.out.swapped hne hA2 hg2); have n1_ := Aside0.mk (HG.out.trans (G2.of hg2)); clear HA HG hA2 hg2 hm1; have HA := n0_; have HG := n1_; clear n0_ n1_)
    | ((go_at_call 67); (with_reducible refine (down_callsI hb g c (n + 1) (swpR a 0 n) m 0 n _ _ (by omega) (by omega) (by omega) hm hs (by omega) _ HA.out.hp hne).mono ?_); rintro e w1 ⟨⟨v_, rfl⟩, hA2, hg2⟩; have n0_ := Aside0.mk (HA.out.swapped hne hA2.arr hg2); have n1_ := Aside0.mk (HG.out.trans (G2.of hg2)); clear HA HG hA2 hg2; have HA := n0_; have HG := n1_; clear n0_ n1_)
    | ((go_at_call 88); (with_reducible refine (pop_calls hb g (n + 1) c (dnR n (swpR a 0 n) 0 n) m h0 hm hc hcl _ HA.out.hp.arr HA.out.gl HA.out.hp.hv HA.out.fz hne).mono ?_); rintro e w1 ⟨rfl, hA2, hv2, hf2, hg2⟩; have n0_ := Aside0.mk (HQ.mk (HP.mk' hA2 hv2) hf2 (Nat.lt_of_lt_of_le HA.out.gl hg2.size)); have n1_ := Aside0.mk (HG.out.trans (G2.of' (g := g) hg2)); clear HA HG hA2 hg2 hv2 hf2; have HA := n0_; have HG := n1_; clear n0_ n1_))
  go_ret
  exact ⟨rfl, HA.out, HG.out⟩
end Go.Proofs.Ytmcfhmflncghiaa.HeapW
namespace Go.Proofs.Ytmcfhmflncghiaa.HeapW
open Go.RowKit Go.Proofs.Ytmcfhmflncghiaa.Q Go.Proofs.YtmcfhmflncghiaaW.PrintWords Go.Proofs.YtmcfhmflncghiaaW.PrintLast Go.Proofs.YtmcfhmflncghiaaW.PrintMore
set_option linter.unusedVariables false
set_option linter.unusedSimpArgs false
/-- The shares so far, of the first i lengths. -/
def XS (Q : Nat → Int) (n i : Nat) : List Int := (List.range n).map (fun k => if k < i then Q k else 0)
def YS (R : Nat → Int) : Nat → List Value
  | 0 => []
  | i + 1 => YS R i ++ [.int .i64 i, .int .i64 (R i)]
def MS (Q : Nat → Int) (a1 : Int) : Nat → Int
  | 0 => a1
  | i + 1 => wrap64 (MS Q a1 i - Q i)
theorem XS_zero (Q : Nat → Int) (n : Nat) : XS Q n 0 = List.replicate n 0 := by
  apply List.ext_getElem
  · simp [XS]
  · intro i h1 h2; simp [XS]
theorem XS_step (Q : Nat → Int) (n i : Nat) : (XS Q n i).set i (Q i) = XS Q n (i + 1) := by
  apply List.ext_getElem
  · simp [XS]
  · intro k h1 h2
    simp only [XS, List.getElem_set, List.getElem_map, List.getElem_range]
    by_cases e : i = k
    · subst e; rw [if_pos rfl, if_pos (by omega)]
    · rw [if_neg e]
      by_cases q : k < i
      · rw [if_pos q, if_pos (by omega)]
      · rw [if_neg q, if_neg (by omega)]
theorem YS_len (R : Nat → Int) (i : Nat) : (YS R i).length = i * 2 := by
  induction i with
  | zero => rfl
  | succ i ih => simp [YS, ih]; omega
structure Halt1 (p : Prop) : Prop where
  out : p
structure St1 (w w' : World) (n : Nat) (Q R : Nat → Int) (i : Nat) (v : Value) : Prop where
  hs : w'.ownsRow w.heap.size 3 1 (.slice (some ⟨w.heap.size, 0, none⟩) n n) n (nums .i64 (XS Q n i))
  hv : w'.cell? ⟨w.heap.size + 1 + 1, 0, none⟩ = some v
  ho : w'.ownsRow w.heap.size 77 2 v i (YS R i)
  n1 : v.ownBlock ≠ some (w.heap.size + 1 + 1)
  n2 : v.ownBlock ≠ some w.heap.size
  hf : w'.frozen? ⟨w.heap.size + 1 + 1, 0, none⟩ = false
  hb : Below w.heap.size w w'
/-- The world ahead of the append. -/
def W3 (w wr : World) (d i : Nat) (q r : Int) : World := ((wr.drewN d).setCell ⟨w.heap.size, i, none⟩ (.int .i64 q)).alloc (.cells #[.int .i64 i, .int .i64 r] 77)
theorem drewN_heap (w : World) (d : Nat) : (w.drewN d).heap = w.heap := by simp
theorem W3_size (w wr : World) (d i : Nat) (q r : Int) : (W3 w wr d i q r).heap.size = wr.heap.size + 1 := by unfold W3; simp
theorem own_drewN {w : World} {base : Nat} {e : TypeId} {size n : Nat} {v : Value} {xs : List Value} (h : w.ownsRow base e size v n xs) (d : Nat) : (w.drewN d).ownsRow base e size v n xs := own_move h (fun k _ => by rw [drewN_heap])
theorem W3_own {w wr : World} {n : Nat} {Q R : Nat → Int} {i : Nat} {v : Value} (h : St1 w wr n Q R i v) (d : Nat) (q r : Int) : (W3 w wr d i q r).ownsRow w.heap.size 77 2 v i (YS R i) := by
  unfold W3
  exact World.ownsRow.alloc (own_setCell (own_drewN h.ho d) (fun e => h.n2 e.symm) _) _
theorem W3_news (w wr : World) (d i : Nat) (q r : Int) : ∀ j u, [Value.int .i64 i, .int .i64 r][j]? = some u → (W3 w wr d i q r).cell? ((⟨wr.heap.size, 0, none⟩ : Addr).add j) = some u := by
  have hh := heap_alloc_new ((wr.drewN d).setCell ⟨w.heap.size, i, none⟩ (.int .i64 q)) (.cells #[.int .i64 i, .int .i64 r] 77)
  have hs : ((wr.drewN d).setCell ⟨w.heap.size, i, none⟩ (.int .i64 q)).heap.size = wr.heap.size := by simp
  rw [hs] at hh
  exact World.news_of_block (cs := #[.int .i64 i, .int .i64 r]) hh
theorem W3_old {w wr : World} {d i : Nat} {q r : Int} {k : Nat} (hk : k < wr.heap.size) (hne : k ≠ w.heap.size) : (W3 w wr d i q r).heap[k]? = wr.heap[k]? := by
  unfold W3
  rw [heap_alloc_old _ _ (by simpa using hk)]
  refine (Below.heap_setCell _ _ _ k (by simpa using hne)).trans ?_
  rw [drewN_heap]
theorem St1.step {w wr : World} {n : Nat} {Q R : Nat → Int} {i : Nat} {v : Value} (h : St1 w wr n Q R i v) (hi : i < n) (d : Nat) {g cap : Nat} {w4 : World}
    (ho : w4.ownsRow w.heap.size 77 2 (.slice (some ⟨g, 0, none⟩) (i + 1) cap) (i + 1) (YS R i ++ [.int .i64 i, .int .i64 (R i)])) (hg : (W3 w wr d i (Q i) (R i)).grownBy w4 v.ownBlock) (hat : v.ownBlock = some g ∨ g = wr.heap.size + 1) :
    (w4.cell? ⟨w.heap.size + 1 + 1, 0, none⟩ = some v ∧ w4.frozen? ⟨w.heap.size + 1 + 1, 0, none⟩ = false) ∧
    St1 w (w4.setCell ⟨w.heap.size + 1 + 1, 0, none⟩ (.slice (some ⟨g, 0, none⟩) (i + 1) cap)) n Q R (i + 1) (.slice (some ⟨g, 0, none⟩) (i + 1) cap) := by
  have hlt : w.heap.size + 1 + 1 < wr.heap.size := World.block_lt_of_cell? wr ⟨w.heap.size + 1 + 1, 0, none⟩ h.hv
  have hH : w4.heap[w.heap.size + 1 + 1]? = wr.heap[w.heap.size + 1 + 1]? := (hg.block _ (by rw [W3_size]; omega) (fun e => h.n1 e.symm)).trans (W3_old hlt (by omega))
  have hv4 : w4.cell? ⟨w.heap.size + 1 + 1, 0, none⟩ = some v := (World.cell?_of_block (a := ⟨w.heap.size + 1 + 1, 0, none⟩) hH).trans h.hv
  have hf4 : w4.frozen? ⟨w.heap.size + 1 + 1, 0, none⟩ = false := (World.frozen?_of_block (a := ⟨w.heap.size + 1 + 1, 0, none⟩) hH).trans h.hf
  have g1 : g ≠ w.heap.size + 1 + 1 := by
    rcases hat with q | q
    · intro e; exact h.n1 (by rw [q, e])
    · omega
  have g2 : g ≠ w.heap.size := by
    rcases hat with q | q
    · intro e; exact h.n2 (by rw [q, e])
    · omega
  refine ⟨⟨hv4, hf4⟩, ?_, World.cell?_setCell_same _ _ _ hv4, ?_, by simpa [Value.ownBlock] using g1, by simpa [Value.ownBlock] using g2, by simp [hf4, go_sem], ?_⟩
  · have s := (own_store (own_drewN h.hs d) (i : Int) (Q i)).1
    rw [Int.toNat_natCast, XS_step] at s
    have s2 := World.ownsRow.alloc s (.cells #[.int .i64 i, .int .i64 (R i)] 77)
    have s3 := World.ownsRow.kept s2 hg (by
      right
      intro e
      exact h.n2 (by rw [← e]; simp [Value.ownBlock]))
    exact own_setCell s3 (by simp [Value.ownBlock]; omega) _
  · exact own_setCell ho (by simpa [Value.ownBlock] using fun e => g1 e.symm) _
  · have b1 : Below w.heap.size w (W3 w wr d i (Q i) (R i)) := by
      unfold W3
      have hd : Below w.heap.size w (wr.drewN d) := h.hb.trans ((⟨⟨_, rfl⟩⟩ : Drawn0 wr (wr.drewN d)).below.mono h.hb.size)
      exact (hd.setCell (p := ⟨w.heap.size, i, none⟩) (by simp) _).alloc (by have := h.hb.size; simp; omega) _
    have b2 : Below w.heap.size (W3 w wr d i (Q i) (R i)) w4 := ⟨hg.os, hg.tape, hg.output, hg.size, fun k hk => hg.block k (by have := b1.size; omega) (fun e => by
      have := World.ownsRow.lt h.ho k e.symm; omega)⟩
    exact (b1.trans b2).setCell (p := ⟨w.heap.size + 1 + 1, 0, none⟩) (by simp; omega) _
/-- The remainders as they come in. -/
def rem0 (R : Nat → Int) (k : Nat) : Rem := ((k : Int), R k)
theorem YS_at (R : Nat → Int) (n k : Nat) (hk : k < n) : (YS R n)[k * 2]? = some (.int .i64 (k : Int)) ∧ (YS R n)[k * 2 + 1]? = some (.int .i64 (R k)) := by
  induction n with
  | zero => omega
  | succ n ih =>
    have hl := YS_len R n
    by_cases e : k = n
    · subst e
      unfold YS
      rw [List.getElem?_append_right (by omega), List.getElem?_append_right (by omega), hl, show k * 2 - k * 2 = 0 by omega, show k * 2 + 1 - k * 2 = 1 by omega]
      exact ⟨rfl, rfl⟩
    · have := ih (by omega)
      unfold YS
      rw [List.getElem?_append_left (by omega), List.getElem?_append_left (by omega)]
      exact this
theorem addr_add (g k : Nat) : (⟨g, 0, none⟩ : Addr).add k = ⟨g, k, none⟩ := by
  unfold Addr.add
  split
  · next h => simp_all
  · simp
theorem St1.done {w wr : World} {n : Nat} {Q R : Nat → Int} {v : Value} (h : St1 w wr n Q R n v) (hn : 0 < n) :
    ∃ g cap, v = .slice (some ⟨g, 0, none⟩) n cap ∧ HQ wr (w.heap.size + 1 + 1) g cap n (rem0 R) n ∧ n ≤ cap ∧ cap ≤ maxLen ∧ w.heap.size ≤ g ∧ g ≠ w.heap.size + 1 + 1 ∧ g ≠ w.heap.size := by
  have ho := h.ho
  rcases ho.2 with ⟨_, q⟩ | ⟨g, cap, cur, rfl, hb, hg, h1, h2, h3, h4⟩
  · omega
  · have n1 := h.n1; have n2 := h.n2
    refine ⟨g, cap, rfl, ⟨HP.mk' (fun k hk => ?_) h.hv, h.hf, (Array.getElem?_eq_some_iff.1 hg).1⟩, h1, h2, hb, fun e => n1 (by rw [e]; rfl), fun e => n2 (by rw [e]; rfl)⟩
    have c := World.ownsRow.cells ho (g := g) rfl
    have y := YS_at R n k hk
    have c0 := c _ _ y.1
    have c1 := c _ _ y.2
    rw [addr_add] at c0 c1
    exact ⟨⟨c0, c1⟩, blk_frozen hg _, blk_frozen hg _⟩
/-- The remainders when p tops are taken; the shares when p are made greater. -/
def AA (R : Nat → Int) (n : Nat) : Nat → (Nat → Rem)
  | 0 => iniR (n / 2) (rem0 R) n
  | p + 1 => topR (AA R n p) (n - p)
def SS (Q : Nat → Int) (n : Nat) (ix : Nat → Nat) : Nat → List Int
  | 0 => XS Q n n
  | p + 1 => (SS Q n ix p).set (ix p) (wrap64 (rd (SS Q n ix p) (ix p : Int) + 1))
structure St2 (w w' : World) (n g cap : Nat) (Q R : Nat → Int) (ix : Nat → Nat) (p : Nat) : Prop where
  hs : w'.ownsRow w.heap.size 3 1 (.slice (some ⟨w.heap.size, 0, none⟩) n n) n (nums .i64 (SS Q n ix p))
  hq : HQ w' (w.heap.size + 1 + 1) g cap (n - p) (AA R n p) n
  hb : Below w.heap.size w w'
theorem St2.ini {w wr w' : World} {n g cap : Nat} {Q R : Nat → Int} {ix : Nat → Nat} {v : Value} (h : St1 w wr n Q R n v) (hq : HQ wr (w.heap.size + 1 + 1) g cap n (rem0 R) n) (hgb : w.heap.size ≤ g) (hne : g ≠ w.heap.size + 1 + 1) (hg2 : g ≠ w.heap.size)
    (hA : HP w' (w.heap.size + 1 + 1) g cap n (iniR (n / 2) (rem0 R) n) n) (hg : wr.grownBy w' (some g)) : St2 w w' n g cap Q R ix 0 := by
  refine ⟨World.ownsRow.kept h.hs hg (by right; intro e; exact hg2 (by injection e with e; exact e.symm)), hq.swapped hne hA.arr hg, h.hb.trans ⟨hg.os, hg.tape, hg.output, hg.size, fun k hk => hg.block k (by have := h.hb.size; omega) (fun e => by injection e with e; omega)⟩⟩
theorem St2.pop {w wr w' : World} {n g cap : Nat} {Q R : Nat → Int} {ix : Nat → Nat} {p : Nat} (h : St2 w wr n g cap Q R ix p) (hgb : w.heap.size ≤ g) (hg2 : g ≠ w.heap.size)
    (hA : HQ w' (w.heap.size + 1 + 1) g cap (n - p - 1) (topR (AA R n p) (n - p)) n) (hg : G2 wr w' g (w.heap.size + 1 + 1)) :
    w'.ownsRow w.heap.size 3 1 (.slice (some ⟨w.heap.size, 0, none⟩) n n) n (nums .i64 (SS Q n ix p)) ∧ Below w.heap.size w w' := by
  have hsl : w.heap.size < wr.heap.size := (World.ownsRow.lt h.hs w.heap.size rfl).2
  refine ⟨own_move h.hs (fun k hk => ?_), h.hb.trans ⟨hg.os, hg.tape, hg.output, hg.size, fun k hk => hg.block k (by have := h.hb.size; omega) (by omega) (by omega)⟩⟩
  have : w.heap.size = k := by simpa [Value.ownBlock] using hk
  subst this
  exact hg.block _ hsl (fun e => hg2 e.symm) (by omega)
theorem HQ.moved {w w' : World} {hb g c N : Nat} {a : Nat → Rem} {m : Nat} (h : HQ w hb g c N a m) (h1 : w'.heap[g]? = w.heap[g]?) (h2 : w'.heap[hb]? = w.heap[hb]?) (h3 : w.heap.size ≤ w'.heap.size) : HQ w' hb g c N a m := by
  refine ⟨HP.mk' (fun k hk => ?_) ((World.cell?_of_block (a := ⟨hb, 0, none⟩) h2).trans h.hp.hv), (World.frozen?_of_block (a := ⟨hb, 0, none⟩) h2).trans h.fz, Nat.lt_of_lt_of_le h.gl h3⟩
  obtain ⟨⟨k0, k1⟩, e0, e1⟩ := h.hp.arr k hk
  exact ⟨⟨(World.cell?_of_block (a := ⟨g, k * 2, none⟩) h1).trans k0, (World.cell?_of_block (a := ⟨g, k * 2 + 1, none⟩) h1).trans k1⟩,
    (World.frozen?_of_block (a := ⟨g, k * 2, none⟩) h1).trans e0, (World.frozen?_of_block (a := ⟨g, k * 2 + 1, none⟩) h1).trans e1⟩
theorem St2.step {w w1 : World} {n g cap : Nat} {Q R : Nat → Int} {ix : Nat → Nat} {p : Nat} (hg2 : g ≠ w.heap.size) (hs : w1.ownsRow w.heap.size 3 1 (.slice (some ⟨w.heap.size, 0, none⟩) n n) n (nums .i64 (SS Q n ix p)))
    (hb : Below w.heap.size w w1) (hQ : HQ w1 (w.heap.size + 1 + 1) g cap (n - p - 1) (topR (AA R n p) (n - p)) n) (o : Obj) : St2 w ((w1.setCell ⟨w.heap.size, ix p, none⟩ (.int .i64 (wrap64 (rd (SS Q n ix p) (ix p : Int) + 1)))).alloc o) n g cap Q R ix (p + 1) := by
  have hH : w.heap.size + 1 + 1 < w1.heap.size := World.block_lt_of_cell? w1 ⟨w.heap.size + 1 + 1, 0, none⟩ hQ.hp.hv
  refine ⟨?_, ?_, ?_⟩
  · have s := (own_store hs (ix p : Int) (wrap64 (rd (SS Q n ix p) (ix p : Int) + 1))).1
    rw [Int.toNat_natCast] at s
    exact World.ownsRow.alloc s o
  · rw [show n - (p + 1) = n - p - 1 by omega]
    exact hQ.moved ((heap_alloc_old _ o (by simpa using hQ.gl)).trans (Below.heap_setCell _ _ _ g hg2)) ((heap_alloc_old _ o (by simpa using hH)).trans (Below.heap_setCell _ ⟨w.heap.size, ix p, none⟩ _ (w.heap.size + 1 + 1) (by simp; omega))) (by simp)
  · exact (hb.setCell (p := ⟨w.heap.size, ix p, none⟩) (Nat.le_refl _) _).alloc (by simp; omega) o
set_option maxHeartbeats 2000000 in
theorem shareOf_walk (k : Nat) (A0 : Option Addr) (c0 : Nat) (l0 : List Int) (a1 sum : Int) (Q R : Nat → Int) (w : World) (hr0 : Kd.C (Kd.int .i64) w A0 l0.length l0) (hc0 : l0.length ≤ c0)
    (hl : impl_lengthsSum.f k l0 = some (sum, true)) (hw : impl_within.f a1 10000000 = some true) (hn : 1 ≤ l0.length ∧ l0.length ≤ 20)
    (hq : ∀ i : Nat, i < l0.length → impl_floorParts.f (wrap64 (a1 * rd l0 (i : Int))) sum = some (Q i, R i))
    (mm : Nat) (ix : Nat → Nat) (hmm : MS Q a1 l0.length = (mm : Int)) (hml : mm ≤ l0.length) (hix : ∀ p, p < mm → ix p < l0.length ∧ (AA R l0.length (p + 1) (l0.length - p - 1)).1 = (ix p : Int)) :
    Calls Try.prog 38 #[.slice A0 l0.length c0, .int .i64 a1] w fun e w' => ∃ v, e = .returned (.tuple #[v, .bool true]) ∧ w'.ownsRow w.heap.size 3 1 v l0.length (nums .i64 (SS Q l0.length ix mm)) ∧ Below w.heap.size w w' := by
  obtain ⟨ad, rfl, _⟩ := Kd.at_int hr0 0 (by omega) (by omega)
  have HR0 := Aside0.mk hr0
  have HC0 := Aside0.mk hc0
  clear hr0 hc0
  have mk := print_make (P := Try.prog) 27 3 .i64 8 Try.underlying27 (by kernel_rfl) (by decide) l0.length (by omega)
  obtain ⟨i52, hi52, hz52, hs52, hb52⟩ : ∃ i, Try.prog.info? 77 = some i ∧ i.zero = some (.agg #[.int .i64 0, .int .i64 0]) ∧ i.size = 2 ∧ i.bytes = 16 :=
    ⟨(Try.prog.info? 77).get (by kernel_rfl), (Option.some_get _).symm, by kernel_rfl, by kernel_rfl, by kernel_rfl⟩
  have hta : ∀ (x y : Int) (W : World), (Instr.typeAssert (.iface 77 (.agg #[.int .i64 x, .int .i64 y])) 20 77 false).run Try.prog W = .ok (.agg #[.int .i64 x, .int .i64 y]) W := fun _ _ _ => by kernel_rfl
  go_enter Try.func38, Try.ntmps38
  go_wp2_with (first
    | ((go_at_call 56); (with_reducible refine (impl_lengthsSum.calls k _ _ l0 sum true _ qq58 HC0.out hl).mono ?_); rintro e w1 ⟨rfl, ⟨⟨d1, rfl⟩⟩⟩)
    | ((go_at_call 37); (with_reducible refine (impl_within.calls _ _ _ _ hw).mono ?_); rintro e w1 ⟨rfl, ⟨⟨d2, rfl⟩⟩⟩))
  go_loopg [10, 37] (l0.length + 1) (fun f v10 v37 w' => ∃ (i : Nat) (v : Value), v10 = .int .i64 (MS Q a1 i) ∧ v37 = .int .i64 (i : Int) ∧ Aside0 (i ≤ l0.length ∧ f + i = l0.length + 1) ∧ Aside0 (St1 w w' l0.length Q R i v))
  case atStart =>
    refine ⟨0, .slice (some ⟨w.heap.size + 1, 0, none⟩) 0 0, rfl, rfl, ⟨by omega, by omega⟩, ⟨?_⟩⟩
    have hd : (w.drewN (d1 + d2)).heap.size = w.heap.size := by simp
    obtain ⟨W0, hW0⟩ : ∃ W0, w.drewN (d1 + d2) = W0 := ⟨_, rfl⟩
    have hB : Below w.heap.size w W0 := by rw [← hW0]; exact (⟨⟨_, rfl⟩⟩ : Drawn0 w (w.drewN (d1 + d2))).below
    rw [hW0] at hd ⊢
    have s2 : ((W0.alloc (.cells (madeCells #[.int .i64 0] l0.length) 3)).alloc (.cells #[] 77)).heap.size = w.heap.size + 1 + 1 := by simp [hd]
    have hh := heap_alloc_new ((W0.alloc (.cells (madeCells #[.int .i64 0] l0.length) 3)).alloc (.cells #[] 77)) (.cells #[.slice (some ⟨w.heap.size + 1, 0, none⟩) 0 0] 73)
    rw [s2] at hh
    refine ⟨?_, ?_, ?_, by simp [Value.ownBlock], by simp [Value.ownBlock], blk_frozen hh 0, ?_⟩
    · rw [XS_zero]
      refine World.ownsRow.alloc (World.ownsRow.alloc ?_ _) _
      have := own_made W0 w.heap.size 3 .i64 l0.length (by omega) (by omega)
      rw [hd] at this
      exact this
    · exact (World.cell?_alloc_at (c := _) (t := _) (n := w.heap.size + 1 + 1) (i := 0) (hn := by simp [hd])).trans rfl
    · refine World.ownsRow.alloc ?_ _
      have := World.ownsRow_made (W0.alloc (.cells (madeCells #[.int .i64 0] l0.length) 3)) (base := w.heap.size) (e := 77) (size := 2) #[] 0 (by simp [hd]) (by decide) (by simp)
      simp only [World.size_alloc, hd] at this
      exact this
    · exact ((hB.alloc (by omega) _).alloc (by simp; omega) _).alloc (by simp; omega) _
  case round =>
    obtain ⟨i, v, rfl, rfl, HI, HS⟩ := hrel
    have hi := HI.out.1
    by_cases c1 : i < l0.length
    · have c1b : decide ((i : Int) < (l0.length : Int)) = true := decide_eq_true (by omega)
      have p1 : (0 : Int) ≤ (i : Int) := by omega
      have p2 : (i : Int) < (l0.length : Int) := by omega
      obtain ⟨ad', e', hx⟩ := Kd.at_int HR0.out (i : Int) p1 p2
      obtain rfl : ad = ad' := by injection e'
      rw [Int.toNat_natCast] at hx
      replace hx := (HS.out.hb.cell (World.block_lt_of_cell? w _ hx)).trans hx
      obtain ⟨hc, hcf⟩ := own_at HS.out.hs (i : Int) p1 p2
      rw [Int.toNat_natCast] at hc hcf
      have hvr := HS.out.hv
      have hfr := HS.out.hf
      go_wp2_with (first | (at_builtin; refine Halt1.out ?_) | ((go_at_call 57); (with_reducible refine (impl_floorParts.calls _ _ _ _ _ (hq i c1)).mono ?_); rintro e w1 ⟨rfl, ⟨⟨d3, rfl⟩⟩⟩))
      refine Halt1.mk ?_
      refine wpList_append_lies _ (by rfl) (.tmp 60) (.tmp 64) 73 rfl w.heap.size 77 i52 (.agg #[.int .i64 0, .int .i64 0]) 2 16 (by kernel_rfl) hi52 hz52 hs52 hb52 (by decide) (by decide) v i (YS R i) (by rfl) (W3_own HS.out d3 (Q i) (R i)) ⟨wr.heap.size, 0, none⟩ 1 1 [.int .i64 i, .int .i64 (R i)] (by rfl) (by rfl) (W3_news w wr d3 i (Q i) (R i)) (by intro u hu; simp at hu; rcases hu with rfl | rfl <;> rfl) (by decide) (by unfold maxLen; omega) (by omega) (by show w.heap.size ≤ (W3 w wr d3 i (Q i) (R i)).heap.size; rw [W3_size]; have := HS.out.hb.size; omega) (wr.heap.size + 1) (W3_size _ _ _ _ _ _) ?_
      intro g4 cap4 w4 ho4 hg4 hat4 hlt4
      obtain ⟨⟨hv4, hf4⟩, HS4⟩ := St1.step HS.out c1 d3 ho4 hg4 hat4
      replace HS4 := Aside0.mk HS4
      clear ho4 hg4 hat4 hlt4
      go_wp2
      go_roundg (l0.length - i)
      case measure => have := HI.out.2; omega
      case rel => exact ⟨i + 1, .slice (some ⟨g4, 0, none⟩) (i + 1) cap4, rfl, (by first | rfl | (simp; done) | (unfold wrap64; omega)), ⟨by omega, by omega⟩, HS4⟩
    · have c1b : decide ((i : Int) < (l0.length : Int)) = false := decide_eq_false (by omega)
      obtain rfl : i = l0.length := by omega
      obtain ⟨g, cap, rfl, HQ0, hnc, hcm, hgb, hne, hg2⟩ := HS.out.done (by omega)
      replace HQ0 := Aside0.mk HQ0
      rw [hmm]
      go_wp2_with (first | ((go_at_call 58); refine Halt1.out ?_))
      refine Halt1.mk ?_
      refine (init_calls (w.heap.size + 1 + 1) g cap l0.length (rem0 R) l0.length (Nat.le_refl _) (by omega) wr HQ0.out.hp hne).mono ?_
      rintro e w1 ⟨⟨v_, rfl⟩, hA1, hg1⟩
      have HT := Aside0.mk (St2.ini (ix := ix) HS.out HQ0.out hgb hne hg2 hA1 hg1)
      clear HS HQ0 hA1 hg1 HI
      go_wp2
      go_loopg [72] (mm + 1) (fun f v72 w' => ∃ (p : Nat), v72 = .int .i64 (p : Int) ∧ Aside0 (p ≤ mm ∧ f + p = mm + 1) ∧ Aside0 (St2 w w' l0.length g cap Q R ix p))
      case atStart => exact ⟨0, rfl, ⟨by omega, by omega⟩, HT⟩
      case round =>
        clear HT
        obtain ⟨p, rfl, HI, HT⟩ := hrel
        have hp := HI.out.1
        by_cases c2 : p < mm
        · have c2b : decide ((p : Int) < (mm : Int)) = true := decide_eq_true (by omega)
          go_wp2_with (first | ((go_at_call 59); refine Halt1.out ?_))
          refine Halt1.mk ?_
          refine (hpop_calls (w.heap.size + 1 + 1) g cap (l0.length - p) (AA R l0.length p) l0.length (by omega) (by omega) (by omega) (by omega) hcm wr HT.out.hq hne).mono ?_
          rintro e w1 ⟨rfl, hQ, hG⟩
          obtain ⟨hs1, hb1⟩ := HT.out.pop hgb hg2 hQ hG
          obtain ⟨hi1, hi2⟩ := hix p c2
          rw [show (topR (AA R l0.length p) (l0.length - p) (l0.length - p - 1)).1 = (ix p : Int) from hi2]
          obtain ⟨hc, hcf⟩ := own_at hs1 (ix p : Int) (by omega) (by omega)
          rw [Int.toNat_natCast] at hc hcf
          have p1 : (0 : Int) ≤ (ix p : Int) := by omega
          have p2 : (ix p : Int) < (l0.length : Int) := by omega
          have hsz : w.heap.size < w1.heap.size := World.block_lt_of_cell? w1 ⟨w.heap.size, ix p, none⟩ hc
          have hc2 : ∀ o, (w1.alloc o).cell? ⟨w.heap.size, ix p, none⟩ = some (.int .i64 (rd (SS Q l0.length ix p) (ix p : Int))) := fun o => (World.cell?_of_block (a := ⟨w.heap.size, ix p, none⟩) (heap_alloc_old w1 o hsz)).trans hc
          have hcf2 : ∀ o, (w1.alloc o).frozen? ⟨w.heap.size, ix p, none⟩ = false := fun o => (World.frozen?_of_block (a := ⟨w.heap.size, ix p, none⟩) (heap_alloc_old w1 o hsz)).trans hcf
          have HS2 := Aside0.mk (St2.step (o := .cells #[.int .i64 (ix p : Int), .int .i64 (topR (AA R l0.length p) (l0.length - p) (l0.length - p - 1)).2] 77) hg2 hs1 hb1 hQ)
          clear HT hs1 hb1 hQ hG hi2
          go_wp2
          go_roundg (mm - p)
          case measure => have := HI.out.2; omega
          case rel => exact ⟨p + 1, (by first | rfl | (simp; done) | (unfold wrap64; omega)), ⟨by omega, by omega⟩, HS2⟩
        · have c2b : decide ((p : Int) < (mm : Int)) = false := decide_eq_false (by omega)
          obtain rfl : p = mm := by omega
          go_wp2
          go_ret2
          exact ⟨_, rfl, HT.out.hs, HT.out.hb⟩
end Go.Proofs.Ytmcfhmflncghiaa.HeapW
namespace Go.Proofs.Ytmcfhmflncghiaa.HeapW
open Go.RowKit Go.Proofs.Ytmcfhmflncghiaa.Q Go.Proofs.YtmcfhmflncghiaaW.PrintWords Go.Proofs.YtmcfhmflncghiaaW.PrintLast Go.Proofs.YtmcfhmflncghiaaW.PrintMore
set_option linter.unusedVariables false
set_option linter.unusedSimpArgs false
theorem less_iff (x y : Rem) : lessR x y = true ↔ (y.2 < x.2 ∨ (x.2 = y.2 ∧ x.1 < y.1)) := by
  unfold lessR
  by_cases h : x.2 = y.2
  · rw [if_neg (by simp [h])]; simp only [decide_eq_true_eq]; omega
  · rw [if_pos h]; simp only [decide_eq_true_eq]; omega
theorem nless_iff (x y : Rem) : lessR x y = false ↔ ¬ (y.2 < x.2 ∨ (x.2 = y.2 ∧ x.1 < y.1)) := by
  rw [← less_iff]; simp
theorem nless_trans {x y z : Rem} (h1 : lessR x y = false) (h2 : lessR y z = false) : lessR x z = false := by
  rw [nless_iff] at *; omega
theorem nless_asymm {x y : Rem} (h : lessR x y = true) : lessR y x = false := by
  rw [less_iff] at h; rw [nless_iff]; omega
/-- From s on, no child goes ahead of its parent. -/
def Hp (a : Nat → Rem) (s n : Nat) : Prop := ∀ j, 1 ≤ j → j < n → s ≤ (j - 1) / 2 → lessR (a j) (a ((j - 1) / 2)) = false
def Hq (a : Nat → Rem) (s i n : Nat) : Prop :=
  (∀ j, 1 ≤ j → j < n → s ≤ (j - 1) / 2 → (j - 1) / 2 ≠ i → lessR (a j) (a ((j - 1) / 2)) = false) ∧
  (∀ j, 1 ≤ j → j < n → (j - 1) / 2 = i → 1 ≤ i → s ≤ (i - 1) / 2 → lessR (a j) (a ((i - 1) / 2)) = false)
theorem swp_l (a : Nat → Rem) (i j : Nat) : swpR a i j j = a i := by simp [swpR]
theorem swp_r (a : Nat → Rem) (i j : Nat) (h : i ≠ j) : swpR a i j i = a j := by simp [swpR, h]
theorem swp_o (a : Nat → Rem) (i j k : Nat) (h : k ≠ i) (h' : k ≠ j) : swpR a i j k = a k := by simp [swpR, h, h']
theorem dn_heap (f : Nat) : ∀ (a : Nat → Rem) (s i n : Nat), s ≤ i → n ≤ i + f → Hq a s i n → Hp (dnR f a i n) s n := by
  induction f with
  | zero =>
    intro a s i n hs hf h j h1 h2 h3
    exact h.1 j h1 h2 h3 (by omega)
  | succ f ih =>
    intro a s i n hs hf h
    simp only [dnR]
    by_cases c : n ≤ 2 * i + 1
    · rw [if_pos c]
      intro j h1 h2 h3
      exact h.1 j h1 h2 h3 (by omega)
    · rw [if_neg c]
      obtain ⟨j, hj⟩ : ∃ j, (if 2 * i + 2 < n ∧ lessR (a (2 * i + 2)) (a (2 * i + 1)) = true then 2 * i + 2 else 2 * i + 1) = j := ⟨_, rfl⟩
      have hjc : (j = 2 * i + 1 ∨ j = 2 * i + 2) ∧ j < n ∧ ∀ k, (k = 2 * i + 1 ∨ k = 2 * i + 2) → k < n → lessR (a k) (a j) = false := by
        by_cases e : 2 * i + 2 < n ∧ lessR (a (2 * i + 2)) (a (2 * i + 1)) = true
        · rw [if_pos e] at hj
          subst hj
          refine ⟨Or.inr rfl, e.1, ?_⟩
          rintro k (rfl | rfl) hk
          · exact nless_asymm e.2
          · rw [nless_iff]; omega
        · rw [if_neg e] at hj
          subst hj
          refine ⟨Or.inl rfl, by omega, ?_⟩
          rintro k (rfl | rfl) hk
          · rw [nless_iff]; omega
          · exact Bool.eq_false_iff.2 (fun q => e ⟨hk, q⟩)
      simp only [hj]
      obtain ⟨hj1, hjn, hmin⟩ := hjc
      have hji : (j - 1) / 2 = i := by omega
      by_cases e : lessR (a j) (a i) = true
      · rw [if_pos e]
        refine ih (swpR a i j) s j n (by omega) (by omega) ⟨?_, ?_⟩
        · intro k h1 h2 h3 h4
          by_cases ek : k = j
          · subst ek
            rw [hji, swp_l, swp_r _ _ _ (by omega)]
            exact nless_asymm e
          · by_cases ek2 : (k - 1) / 2 = i
            · rw [ek2, swp_o _ _ _ _ (by omega) ek, swp_r _ _ _ (by omega)]
              exact hmin k (by omega) h2
            · by_cases ek3 : k = i
              · subst ek3
                rw [swp_r _ _ _ (by omega), swp_o _ _ _ _ (by omega) (by omega)]
                exact h.2 j (by omega) hjn hji h1 h3
              · rw [swp_o _ _ _ _ ek3 ek, swp_o _ _ _ _ ek2 h4]
                exact h.1 k h1 h2 h3 ek2
        · intro k h1 h2 h3 h4 h5
          rw [hji, swp_r _ _ _ (by omega), swp_o _ _ _ _ (by omega) (by omega)]
          have := h.1 k h1 h2 (by omega) (by omega)
          rwa [h3] at this
      · rw [if_neg e]
        have e' : lessR (a j) (a i) = false := by simpa using e
        intro k h1 h2 h3
        by_cases ek : (k - 1) / 2 = i
        · rw [ek]
          exact nless_trans (hmin k (by omega) h2) e'
        · exact h.1 k h1 h2 h3 ek
/-- The same remainders in another order, of the first m. -/
def Pm (a a' : Nat → Rem) (m : Nat) : Prop := ∃ σ τ : Nat → Nat, (∀ k, σ (τ k) = k) ∧ (∀ k, τ (σ k) = k) ∧ (∀ k, m ≤ k → σ k = k) ∧ (∀ k, k < m → σ k < m) ∧ ∀ k, a' k = a (σ k)
theorem Pm.refl (a : Nat → Rem) (m : Nat) : Pm a a m := ⟨id, id, fun _ => rfl, fun _ => rfl, fun _ _ => rfl, fun _ h => h, fun _ => rfl⟩
theorem Pm.trans {a b c : Nat → Rem} {m : Nat} (h : Pm a b m) (h' : Pm b c m) : Pm a c m := by
  obtain ⟨s, t, h1, h2, h3, h4, h5⟩ := h
  obtain ⟨s', t', k1, k2, k3, k4, k5⟩ := h'
  exact ⟨fun k => s (s' k), fun k => t' (t k), fun k => by show s (s' (t' (t k))) = k; rw [k1, h1], fun k => by show t' (t (s (s' k))) = k; rw [h2, k2], fun k hk => by show s (s' k) = k; rw [k3 k hk, h3 k hk], fun k hk => h4 _ (k4 k hk), fun k => by rw [k5, h5]⟩
def swI (i j k : Nat) : Nat := if k = j then i else if k = i then j else k
theorem swI_swI (i j k : Nat) : swI i j (swI i j k) = k := by
  unfold swI
  by_cases h1 : k = j
  · subst h1; simp only [if_true]; by_cases h2 : i = k <;> simp [h2]
  · rw [if_neg h1]
    by_cases h2 : k = i
    · subst h2; simp
    · rw [if_neg h2, if_neg h1, if_neg h2]
theorem Pm.swp (a : Nat → Rem) {i j m : Nat} (hi : i < m) (hj : j < m) : Pm a (swpR a i j) m := by
  refine ⟨swI i j, swI i j, swI_swI i j, swI_swI i j, ?_, ?_, ?_⟩
  · intro k hk; unfold swI; rw [if_neg (by omega), if_neg (by omega)]
  · intro k hk; unfold swI; split <;> (try split) <;> omega
  · intro k; unfold swI swpR; split <;> (try split) <;> rfl
theorem dn_pm (f : Nat) : ∀ (a : Nat → Rem) (i n : Nat), i < n ∨ n ≤ 2 * i + 1 → Pm a (dnR f a i n) n := by
  induction f with
  | zero => intro a i n _; exact Pm.refl a n
  | succ f ih =>
    intro a i n hi
    simp only [dnR]
    by_cases c : n ≤ 2 * i + 1
    · rw [if_pos c]; exact Pm.refl a n
    · rw [if_neg c]
      obtain ⟨j, hj⟩ : ∃ j, (if 2 * i + 2 < n ∧ lessR (a (2 * i + 2)) (a (2 * i + 1)) = true then 2 * i + 2 else 2 * i + 1) = j := ⟨_, rfl⟩
      have hjn : j < n := by
        by_cases e : 2 * i + 2 < n ∧ lessR (a (2 * i + 2)) (a (2 * i + 1)) = true
        · rw [if_pos e] at hj; omega
        · rw [if_neg e] at hj; omega
      simp only [hj]
      by_cases e : lessR (a j) (a i) = true
      · rw [if_pos e]; exact (Pm.swp a (by omega) hjn).trans (ih _ j n (Or.inl hjn))
      · rw [if_neg e]; exact Pm.refl a n
theorem ini_ok (k : Nat) : ∀ (a : Nat → Rem) (n : Nat), k ≤ n → Hp a k n → Hp (iniR k a n) 0 n ∧ Pm a (iniR k a n) n := by
  induction k with
  | zero => intro a n _ h; exact ⟨h, Pm.refl a n⟩
  | succ k ih =>
    intro a n hk h
    simp only [iniR]
    have h1 := dn_heap n a k k n (Nat.le_refl _) (by omega) ⟨fun j h1 h2 h3 h4 => h j h1 h2 (by omega), fun j h1 h2 h3 h4 h5 => by omega⟩
    have h2 := ih (dnR n a k n) n (by omega) h1
    exact ⟨h2.1, (dn_pm n a k n (Or.inl (by omega))).trans h2.2⟩
theorem hp_top {a : Nat → Rem} {n : Nat} (h : Hp a 0 n) : ∀ k, k < n → lessR (a k) (a 0) = false := by
  intro k
  induction k using Nat.strongRecOn with
  | ind k ih =>
    intro hk
    by_cases h0 : k = 0
    · subst h0; rw [nless_iff]; omega
    · exact nless_trans (h k (by omega) hk (by omega)) (ih ((k - 1) / 2) (by omega) (by omega))
theorem top_heap {a : Nat → Rem} {m : Nat} (hm : 0 < m) (h : Hp a 0 m) : Hp (topR a m) 0 (m - 1) := by
  unfold topR
  refine dn_heap (m - 1) _ 0 0 (m - 1) (Nat.le_refl _) (by omega) ⟨fun j h1 h2 h3 h4 => ?_, fun j h1 h2 h3 h4 h5 => by omega⟩
  rw [swp_o _ _ _ _ (by omega) (by omega), swp_o _ _ _ _ (by omega) (by omega)]
  exact h j h1 (by omega) h3
/-- Of the remainders in a, the first m are still there (r tells them), the others are taken. -/
structure GoodH (R : Nat → Int) (a : Nat → Rem) (n : Nat) (r : List Int) (m : Nat) : Prop where
  ex : ∀ k, k < n → ∃ i, i < n ∧ a k = rem0 R i
  inj : ∀ j k, j < n → k < n → a j = a k → j = k
  sur : ∀ i, i < n → ∃ k, k < n ∧ a k = rem0 R i
  on : ∀ k i, k < m → a k = rem0 R i → rd r (i : Int) = R i
  off : ∀ k i, m ≤ k → k < n → a k = rem0 R i → rd r (i : Int) = -1
theorem GoodH.perm {R : Nat → Int} {a a' : Nat → Rem} {n : Nat} {r : List Int} {m : Nat} (h : GoodH R a n r m) (hm : m ≤ n) (hp : Pm a a' m) : GoodH R a' n r m := by
  obtain ⟨s, t, h1, h2, h3, h4, h5⟩ := hp
  have sn : ∀ k, k < n → s k < n := fun k hk => by
    by_cases c : k < m
    · have := h4 k c; omega
    · rw [h3 k (by omega)]; exact hk
  refine ⟨fun k hk => ?_, fun j k hj hk e => ?_, fun i hi => ?_, fun k i hk e => ?_, fun k i hk hk' e => ?_⟩
  · rw [h5]; exact h.ex _ (sn k hk)
  · rw [h5, h5] at e
    have := h.inj _ _ (sn j hj) (sn k hk) e
    rw [← h2 j, ← h2 k, this]
  · obtain ⟨k, hk, e⟩ := h.sur i hi
    refine ⟨t k, ?_, by rw [h5, h1]; exact e⟩
    by_cases c : t k < n
    · exact c
    · have := h3 (t k) (by omega)
      rw [h1] at this
      omega
  · rw [h5] at e; exact h.on _ i (h4 k hk) e
  · rw [h5, h3 k hk] at e; exact h.off k i hk hk' e
theorem rem0_inj {R : Nat → Int} {i j : Nat} (h : rem0 R i = rem0 R j) : i = j := by
  have := congrArg Prod.fst h
  simp only [rem0] at this
  omega
theorem rd_set_ne {r : List Int} {i j : Nat} (x : Int) (h : i ≠ j) : rd (r.set j x) (i : Int) = rd r (i : Int) := by
  unfold rd
  rw [Int.toNat_natCast, List.getD_eq_getElem?_getD, List.getD_eq_getElem?_getD, List.getElem?_set_ne (fun e => h e.symm)]
theorem rd_set_eq {r : List Int} {j : Nat} (x : Int) (h : j < r.length) : rd (r.set j x) (j : Int) = x := by
  unfold rd
  rw [Int.toNat_natCast, List.getD_eq_getElem?_getD, List.getElem?_set_self h]; rfl
theorem GoodH.pop {R : Nat → Int} {a : Nat → Rem} {n : Nat} {r : List Int} {m i0 : Nat} (h : GoodH R a n r m) (hm : m ≤ n) (h0 : 0 < m) (hr : r.length = n) (hi0 : i0 < n) (e0 : a 0 = rem0 R i0) :
    GoodH R (topR a m) n (r.set i0 (-1)) (m - 1) ∧ topR a m (m - 1) = rem0 R i0 := by
  have g1 := h.perm hm (Pm.swp a h0 (show m - 1 < m by omega))
  have e1 : swpR a 0 (m - 1) (m - 1) = rem0 R i0 := by rw [swp_l]; exact e0
  have g2 : GoodH R (swpR a 0 (m - 1)) n (r.set i0 (-1)) (m - 1) := by
    refine ⟨g1.ex, g1.inj, g1.sur, fun k i hk e => ?_, fun k i hk hk' e => ?_⟩
    · have hne : i ≠ i0 := fun q => by
        subst q
        have := g1.inj k (m - 1) (by omega) (by omega) (e.trans e1.symm)
        omega
      rw [rd_set_ne _ hne]
      exact g1.on k i (by omega) e
    · by_cases c : k = m - 1
      · subst c
        rw [e1] at e
        have := rem0_inj e
        subst this
        exact rd_set_eq _ (by omega)
      · have hne : i ≠ i0 := fun q => by
          subst q
          have := g1.inj k (m - 1) (by omega) (by omega) (e.trans e1.symm)
          omega
        rw [rd_set_ne _ hne]
        exact g1.off k i (by omega) hk' e
  have hp := dn_pm (m - 1) (swpR a 0 (m - 1)) 0 (m - 1) (by omega)
  refine ⟨g2.perm (by omega) hp, ?_⟩
  obtain ⟨s, t, h1, h2, h3, h4, h5⟩ := hp
  show dnR (m - 1) (swpR a 0 (m - 1)) 0 (m - 1) (m - 1) = _
  rw [h5, h3 (m - 1) (Nat.le_refl _)]
  exact e1
end Go.Proofs.Ytmcfhmflncghiaa.HeapW
namespace Go.Proofs.Ytmcfhmflncghiaa.Pure
open Go.RowKit Go.Proofs.Ytmcfhmflncghiaa.Q Go.Proofs.YtmcfhmflncghiaaW.PrintWords Go.Proofs.YtmcfhmflncghiaaW.PrintLast Go.Proofs.YtmcfhmflncghiaaW.PrintMore

theorem rd_mid (pre suf : List Int) (y : Int) : rd (pre ++ y :: suf) (pre.length : Int) = y := by simp [rd]
theorem len_mid (pre suf : List Int) (y : Int) : (pre.length : Int) < ((pre ++ y :: suf).length : Int) := by simp; omega
theorem app_mid (pre suf : List Int) (y : Int) : pre ++ y :: suf = (pre ++ [y]) ++ suf := by simp
theorem next_mid (pre : List Int) (y : Int) (h : pre.length < 4611686018427387904) : wrap64 ((pre.length : Int) + 1) = ((pre ++ [y]).length : Int) := by
  unfold wrap64; simp; omega
theorem set_mid (pre suf : List Int) (y z : Int) : (pre ++ y :: suf).set ((pre.length : Int)).toNat z = pre ++ z :: suf := by
  simp

end Go.Proofs.Ytmcfhmflncghiaa.Pure
namespace Go.Proofs.Ytmcfhmflncghiaa.Pure
open Go.RowKit Go.Proofs.Ytmcfhmflncghiaa.Q Go.Proofs.YtmcfhmflncghiaaW.PrintWords Go.Proofs.YtmcfhmflncghiaaW.PrintLast Go.Proofs.YtmcfhmflncghiaaW.PrintMore

theorem sw64 {x : Int} (h0 : -9223372036854775808 ≤ x) (h1 : x ≤ 9223372036854775807) : wrap64 x = x := by unfold wrap64; omega
theorem s6In_eq (a b c : Int) : spec_l6In.f a b c = some (decide (b ≤ a ∧ a ≤ c)) := by
  unfold spec_l6In.f
  by_cases h : a ≥ b
  · rw [if_pos h]; congr 1; rw [decide_eq_decide]; omega
  · rw [if_neg h]; congr 1; symm; rw [decide_eq_false_iff_not]; omega
theorem swithin_eq (a m : Int) (h0 : 0 ≤ m) (h1 : m ≤ 9223372036854775807) : impl_within.f a m = some (decide (-m ≤ a ∧ a ≤ m)) := by
  unfold impl_within.f
  rw [sw64 (by omega) (by omega)]
  by_cases h : -m ≤ a
  · rw [if_pos h]; congr 1; rw [decide_eq_decide]; omega
  · rw [if_neg h]; congr 1; symm; rw [decide_eq_false_iff_not]; omega
theorem sum_bd {B : Nat} (l : List Int) (h : ∀ x ∈ l, -(B : Int) ≤ x ∧ x ≤ B) : -((l.length * B : Nat) : Int) ≤ l.sum ∧ l.sum ≤ (l.length * B : Nat) := by
  induction l with
  | nil => simp
  | cons y l ih =>
    have h1 := ih (fun x hx => h x (List.mem_cons_of_mem _ hx))
    have h2 := h y List.mem_cons_self
    rw [List.sum_cons, List.length_cons, Nat.succ_mul]
    omega
theorem l14Sum_l0 {B : Nat} (suf : List Int) : ∀ (pre : List Int) (s : Int) (k : Nat), suf.length < k → pre.length + suf.length < 4611686018427387904 → (∀ x ∈ suf, -(B : Int) ≤ x ∧ x ≤ B) →
    -4611686018427387904 ≤ s - ((suf.length * B : Nat) : Int) → s + ((suf.length * B : Nat) : Int) ≤ 4611686018427387904 → spec_l14Sum.l0 k (pre ++ suf) s (pre.length : Int) = some (s + suf.sum) := by
  induction suf with
  | nil =>
    intro pre s k hk _ _ _ _
    obtain ⟨k, rfl⟩ : ∃ m, k = m + 1 := ⟨k - 1, by omega⟩
    simp [spec_l14Sum.l0]
  | cons y suf ih =>
    intro pre s k hk hl hB h0 h1
    simp only [List.length_cons] at hk hl
    obtain ⟨k, rfl⟩ : ∃ m, k = m + 1 := ⟨k - 1, by omega⟩
    have hy := hB y List.mem_cons_self
    rw [List.length_cons, Nat.succ_mul] at h0 h1
    simp only [spec_l14Sum.l0]
    rw [if_pos (len_mid _ _ _), if_pos (by omega), rd_mid, next_mid pre y (by omega), app_mid pre suf y, sw64 (x := s + y) (by omega) (by omega)]
    rw [ih (pre ++ [y]) (s + y) k (by omega) (by simp; omega) (fun x hx => hB x (List.mem_cons_of_mem _ hx)) (by omega) (by omega), List.sum_cons]
    congr 1; omega
theorem l14Sum_eq (k : Nat) (B : Nat) (l : List Int) (hk : l.length < k) (hB : ∀ x ∈ l, -(B : Int) ≤ x ∧ x ≤ B) (hl : l.length ≤ 1000000) (hs : l.length * B ≤ 4611686018427387904) : spec_l14Sum.f k l = some l.sum := by
  unfold spec_l14Sum.f
  have := l14Sum_l0 (B := B) l [] 0 k hk (by simp; omega) hB (by omega) (by omega)
  simpa using this

/-- Valid lengths. -/
def LV (l : List Int) : Prop := (∀ x ∈ l, 0 ≤ x ∧ x ≤ 10000) ∧ 1 ≤ l.length ∧ l.length ≤ 20 ∧ 0 < l.sum
instance (l : List Int) : Decidable (LV l) := by unfold LV; infer_instance
theorem LV.sum {l : List Int} (h : LV l) : 0 < l.sum ∧ l.sum ≤ 200000 := by
  have := sum_bd (B := 10000) l (fun x hx => by have := h.1 x hx; omega)
  have h20 : l.length * 10000 ≤ 20 * 10000 := Nat.mul_le_mul_right _ h.2.2.1
  exact ⟨h.2.2.2, by omega⟩
theorem LV.at_ {l : List Int} (h : LV l) (i : Int) : 0 ≤ rd l i ∧ rd l i ≤ 10000 := by
  unfold rd
  by_cases hi : i.toNat < l.length
  · rw [List.getD_eq_getElem?_getD, List.getElem?_eq_getElem hi]; exact h.1 _ (List.getElem_mem hi)
  · rw [List.getD_eq_getElem?_getD, List.getElem?_eq_none (by omega)]; simp

theorem l14Lengths_l0 (suf : List Int) : ∀ (pre : List Int) (k : Nat), 2 * suf.length + pre.length + 1 < k → pre.length + suf.length < 4611686018427387904 → (∀ x ∈ pre, 0 ≤ x ∧ x ≤ 10000) →
    spec_l14Lengths.l0 k (pre ++ suf) (pre.length : Int) = some (decide (LV (pre ++ suf))) := by
  induction suf with
  | nil =>
    intro pre k hk hl hp
    obtain ⟨k, rfl⟩ : ∃ m, k = m + 1 := ⟨k - 1, by omega⟩
    simp only [spec_l14Lengths.l0, List.append_nil, s6In_eq, Option.bind_some] at *
    rw [if_neg (by omega)]
    by_cases h : 1 ≤ (pre.length : Int) ∧ (pre.length : Int) ≤ 20
    · rw [if_pos (by simpa using h), l14Sum_eq k 10000 pre (by omega) (fun x hx => by have := hp x hx; omega) (by omega) (by omega)]
      simp only [Option.bind_some]
      congr 1; rw [decide_eq_decide]; unfold LV
      exact ⟨fun q => ⟨hp, by omega, by omega, q⟩, fun q => q.2.2.2⟩
    · rw [if_neg (by simpa using h)]; congr 1; symm; rw [decide_eq_false_iff_not]; unfold LV; omega
  | cons y suf ih =>
    intro pre k hk hl hp
    simp only [List.length_cons] at hk hl
    obtain ⟨k, rfl⟩ : ∃ m, k = m + 1 := ⟨k - 1, by omega⟩
    simp only [spec_l14Lengths.l0, s6In_eq, Option.bind_some]
    rw [if_pos (len_mid _ _ _), if_pos (by omega), rd_mid]
    by_cases h : 0 ≤ y ∧ y ≤ 10000
    · rw [if_pos (by simpa using h), next_mid pre y (by omega), app_mid pre suf y]
      exact ih (pre ++ [y]) k (by simp; omega) (by simp; omega) (fun x hx => by
        rcases List.mem_append.1 hx with hx | hx
        · exact hp x hx
        · rw [List.mem_singleton.1 hx]; exact h)
    · rw [if_neg (by simpa using h)]; congr 1; symm; rw [decide_eq_false_iff_not]
      intro q; exact h (q.1 y (by simp))
theorem l14Lengths_eq (k : Nat) (l : List Int) (hk : 2 * l.length + 1 < k) (hl : l.length ≤ 1048576) : spec_l14Lengths.f k l = some (decide (LV l)) := by
  have := l14Lengths_l0 l [] k (by simp; omega) (by simp; omega) (by simp)
  simpa [spec_l14Lengths.f] using this

/-- Valid lengths and a valid amount. -/
def AV (l : List Int) (a : Int) : Prop := LV l ∧ -10000000 ≤ a ∧ a ≤ 10000000
instance (l : List Int) (a : Int) : Decidable (AV l a) := by unfold AV; infer_instance
theorem l14Ok_eq (k : Nat) (l : List Int) (a : Int) (hk : 2 * l.length + 1 < k) (hl : l.length ≤ 1048576) : spec_l14Ok.f k l a = some (decide (AV l a)) := by
  simp only [spec_l14Ok.f, l14Lengths_eq k l hk hl, s6In_eq, Option.bind_some]
  by_cases h : LV l
  · rw [if_pos (by simpa using h)]; congr 1; rw [decide_eq_decide]; unfold AV; simp [h]
  · rw [if_neg (by simpa using h)]; congr 1; symm; rw [decide_eq_false_iff_not]; unfold AV; simp [h]

theorem lengthsSum_l0 (suf : List Int) : ∀ (pre : List Int) (k : Nat), suf.length < k → pre.length + suf.length ≤ 20 → 1 ≤ pre.length + suf.length → (∀ x ∈ pre, 0 ≤ x ∧ x ≤ 10000) →
    impl_lengthsSum.l0 k pre.sum (pre ++ suf) ((pre ++ suf).length : Int) (pre.length : Int) = some (if LV (pre ++ suf) then ((pre ++ suf).sum, true) else (0, false)) := by
  induction suf with
  | nil =>
    intro pre k hk hl hl1 hp
    obtain ⟨k, rfl⟩ : ∃ m, k = m + 1 := ⟨k - 1, by omega⟩
    simp only [impl_lengthsSum.l0, List.append_nil] at *
    rw [if_neg (by omega)]
    have hs0 : 0 ≤ pre.sum := by
      clear hl hl1 hk
      induction pre with
      | nil => simp
      | cons z pre ihp => rw [List.sum_cons]; have := hp z List.mem_cons_self; have := ihp (fun x hx => hp x (List.mem_cons_of_mem _ hx)); omega
    simp only [List.length_nil, Nat.add_zero] at hl hl1
    by_cases h : LV pre
    · rw [if_pos h]; have := h.sum; simp; omega
    · rw [if_neg h]
      have : ¬ 0 < pre.sum := fun q => h ⟨hp, hl1, hl, q⟩
      have e : pre.sum = 0 := by omega
      rw [e]; simp
  | cons y suf ih =>
    intro pre k hk hl hl1 hp
    simp only [List.length_cons] at hk hl
    obtain ⟨k, rfl⟩ : ∃ m, k = m + 1 := ⟨k - 1, by omega⟩
    simp only [impl_lengthsSum.l0]
    rw [if_pos (len_mid _ _ _), if_pos (by omega), if_pos (len_mid _ _ _), rd_mid]
    by_cases h0 : y < 0
    · rw [if_pos h0, if_neg (fun q => by have := q.1 y (by simp); omega)]
    · by_cases h1 : y > 10000
      · rw [if_neg h0, if_pos h1, if_neg (fun q => by have := q.1 y (by simp); omega)]
      · have hsb := sum_bd (B := 10000) pre (fun x hx => by have := hp x hx; omega)
        have h20 : pre.length * 10000 ≤ 20 * 10000 := Nat.mul_le_mul_right _ (by omega)
        rw [if_neg h0, if_neg h1, next_mid pre y (by omega), app_mid pre suf y, sw64 (by omega) (by omega)]
        have e : pre.sum + y = (pre ++ [y]).sum := by simp
        rw [e]
        exact ih (pre ++ [y]) k (by omega) (by simp; omega) (by simp; omega) (fun x hx => by
          rcases List.mem_append.1 hx with hx | hx
          · exact hp x hx
          · rw [List.mem_singleton.1 hx]; omega)
theorem lengthsSum_eq (k : Nat) (l : List Int) (hk : 22 < k) : impl_lengthsSum.f k l = some (if LV l then (l.sum, true) else (0, false)) := by
  obtain ⟨k, rfl⟩ : ∃ m, k = m + 1 := ⟨k - 1, by omega⟩
  unfold impl_lengthsSum.f
  by_cases h1 : (l.length : Int) < 1
  · rw [if_pos h1, if_neg (fun q => by have := q.2.1; omega)]; simp [impl_lengthsSum.j0]
  · rw [if_neg h1]
    by_cases h2 : (l.length : Int) > 20
    · rw [if_neg (fun q => by have := q.2.2.1; omega)]; simp only [impl_lengthsSum.j0]; rw [if_pos (by simpa using h2)]
    · simp only [impl_lengthsSum.j0]; rw [if_neg (by simpa using h2)]
      have := lengthsSum_l0 l [] k (by omega) (by simp; omega) (by simp; omega) (by simp)
      simpa using this

theorem mulb {x y m n : Int} (hx : -m ≤ x ∧ x ≤ m) (hy : -n ≤ y ∧ y ≤ n) (hm : 0 ≤ m) (hn : 0 ≤ n) : -(m * n) ≤ x * y ∧ x * y ≤ m * n := by
  have h1 : x.natAbs ≤ m.toNat := by omega
  have h2 : y.natAbs ≤ n.toNat := by omega
  have h3 : (x * y).natAbs ≤ m.toNat * n.toNat := by rw [Int.natAbs_mul]; exact Nat.mul_le_mul h1 h2
  have h4 : ((m.toNat * n.toNat : Nat) : Int) = m * n := by rw [Int.natCast_mul, Int.toNat_of_nonneg hm, Int.toNat_of_nonneg hn]
  omega

/-- Whether all shares are in range. -/
def shIn (m : Int) (s : List Int) : Prop := ∀ x ∈ s, -m ≤ x ∧ x ≤ m
instance (m : Int) (s : List Int) : Decidable (shIn m s) := by unfold shIn; infer_instance
end Go.Proofs.Ytmcfhmflncghiaa.Pure
namespace Go.Proofs.Ytmcfhmflncghiaa.Q
open Go.RowKit Go.Proofs.YtmcfhmflncghiaaW.PrintWords Go.Proofs.YtmcfhmflncghiaaW.PrintLast Go.Proofs.YtmcfhmflncghiaaW.PrintMore
attribute [local go_sem] max2_int min2_int max_two min_two max_three min_three max_four min_four
set_option linter.unusedVariables false
set_option linter.unusedSimpArgs false

/-! ### spec_ShareOf: function 41 -/
mutual
def spec_ShareOf.l0 : Nat → List Int → Int → List Int → Int → List Int → Int → Option (List Int × Bool)
  | 0, _, _, _, _, _, _ => none
  | k + 1, x0, x1, x6, x7, x8, x9 => if x9 < (x0.length : Int) then (if 0 ≤ x9 then ((spec_l14Floor.f (wrap64 (x1 * (rd x0 x9))) x7).bind fun t654 => (if x6.length < 17592186044416 then (if x8.length < 17592186044416 then (spec_ShareOf.l0 k x0 x1 (x6 ++ [t654]) x7 (x8 ++ [wrap64 ((wrap64 (x1 * (rd x0 x9))) - (wrap64 (t654 * x7)))]) (wrap64 (x9 + 1))) else (none)) else (none))) else (none)) else ((spec_l14Sum.f k x6).bind fun t662 => (spec_ShareOf.l1 k x6 x8 (wrap64 (x1 - t662))))
def spec_ShareOf.l1 : Nat → List Int → List Int → Int → Option (List Int × Bool)
  | 0, _, _, _ => none
  | k + 1, x6, x8, x11 => if x11 > 0 then ((spec_l14Next.f k x8).bind fun t663 => (if 0 ≤ t663 then (if t663 < (x6.length : Int) then (if t663 < (x8.length : Int) then (spec_ShareOf.l1 k (x6.set (t663 : Int).toNat (wrap64 ((rd x6 t663) + 1))) (x8.set (t663 : Int).toNat (-1)) (wrap64 (x11 - 1))) else (none)) else (none)) else (none))) else (some (x6, true))
end
def spec_ShareOf.f (k : Nat) (l0 : List Int) (a1 : Int) : Option (List Int × Bool) := (some (([] : List Int) : List Int)).bind fun y645 => ((spec_l14Ok.f k l0 a1).bind fun t648 => (if t648 = true then ((spec_l14Sum.f k l0).bind fun t649 => (spec_ShareOf.l0 k l0 a1 y645 t649 (([] : List Int)) 0)) else (some (y645, false))))
set_option maxHeartbeats 8000000 in
set_option maxRecDepth 100000 in
theorem spec_ShareOf.calls (k : Nat) (A0 : Option Addr) (c0 : Nat) (l0 : List Int) (a1 : Int) (r1 : List Int) (r2 : Bool) (w : World) (hr0 : Kd.C (Kd.int .i64) w A0 l0.length l0) (hc0 : l0.length ≤ c0) (h : spec_ShareOf.f k l0 a1 = some (r1, r2)) :
    Calls Try.prog 41 #[.slice A0 l0.length c0, .int .i64 a1] w fun e w' => ∃ v0_ : Value, e = .returned (.tuple #[v0_, .bool r2]) ∧ Kd.R (Kd.int .i64) 3 w' w.heap.size (fun _ => True) v0_ r1 ∧ Below w.heap.size w w' := by
  have HR0 := Aside0.mk hr0
  have HC0 := Aside0.mk hc0
  clear hr0 hc0
  have HB := Aside0.mk (Below.refl w.heap.size w)
  have H : ((some (([] : List Int) : List Int)).bind fun y645 => ((spec_l14Ok.f k l0 a1).bind fun t648 => (if t648 = true then ((spec_l14Sum.f k l0).bind fun t649 => (spec_ShareOf.l0 k l0 a1 y645 t649 (([] : List Int)) 0)) else (some (y645, false))))) = some (r1, r2) := h
  clear h
  obtain ⟨y645, hy645⟩ : ∃ y_ : List Int, y_ = (([] : List Int)) := ⟨_, rfl⟩
  replace H : ((spec_l14Ok.f k l0 a1).bind fun t648 => (if t648 = true then ((spec_l14Sum.f k l0).bind fun t649 => (spec_ShareOf.l0 k l0 a1 y645 t649 (([] : List Int)) 0)) else (some (y645, false)))) = some (r1, r2) := by first | (rw [hy645]; with_reducible exact H) | (have H2_ := (Option.bind_some _ _).symm.trans H; rw [hy645]; with_reducible exact H2_) | (have H2_ := (Option.bind_some _ _).symm.trans H; with_reducible exact H2_) | with_reducible exact H | (rw [hy645]; exact H) | exact H
  have Ny645 := Aside0.mk hy645
  clear hy645
  replace H := Option.bind_eq_some_iff.mp H
  obtain ⟨t648, A30, H⟩ := H
  replace H : (if t648 = true then ((spec_l14Sum.f k l0).bind fun t649 => (spec_ShareOf.l0 k l0 a1 y645 t649 (([] : List Int)) 0)) else (some (y645, false))) = some (r1, r2) := H
  have A3 := Aside0.mk A30
  clear A30
  by_cases c4 : t648 = true
  · subst c4
    have H1 : ((spec_l14Sum.f k l0).bind fun t649 => (spec_ShareOf.l0 k l0 a1 y645 t649 (([] : List Int)) 0)) = some (r1, r2) := by rw [if_pos rfl] at H; exact H
    clear H
    have H := H1
    clear H1
    replace H := Option.bind_eq_some_iff.mp H
    obtain ⟨t649, A50, H⟩ := H
    replace H : (spec_ShareOf.l0 k l0 a1 y645 t649 (([] : List Int)) 0) = some (r1, r2) := H
    have A5 := Aside0.mk A50
    clear A50
    obtain ⟨y650, hy650⟩ : ∃ y_ : List Int, y_ = (([] : List Int)) := ⟨_, rfl⟩
    replace H : (spec_ShareOf.l0 k l0 a1 y645 t649 y650 0) = some (r1, r2) := by first | (rw [hy650]; with_reducible exact H) | (have H2_ := (Option.bind_some _ _).symm.trans H; rw [hy650]; with_reducible exact H2_) | (have H2_ := (Option.bind_some _ _).symm.trans H; with_reducible exact H2_) | with_reducible exact H | (rw [hy650]; exact H) | exact H
    have Ny650 := Aside0.mk hy650
    clear hy650
    have H' := Aside0.mk H
    clear H
    go_enter Try.func41, Try.ntmps41
    go_wp2_with (first | ((with_reducible refine gate_dst (N := 13) rfl ?_); refine Kd.R_lit (Kd.int .i64) _ 3 ?hg (N := 13) ?hd (xs := ([] : List Int)) (inner := []) (ok := fun _ => True) (okp := fun _ => True) ?hr ?hp (fun _ hk => hk) trivial (Below.refl _ _) (Nat.le_refl _) (by simp) ?_; (case hd => rfl); (case hg => rfl); (case hr => exact qq17); (case hp => exact (Reps.none _ _)); intro v646 w6 ho7 hb hg_ hnew_; clear hg_ hnew_; (first | rw [← Ny645.out] at ho7 | (simp only [Int.reduceToNat] at ho7; rw [← Ny645.out] at ho7)); have n0_ := Aside0.mk (Kd.R_lower ho7 (below_size qq1)); have n1_ := Aside0.mk (below_step qq1 hb); clear HB; have HO647 := n0_; have HB := n1_; clear n0_ n1_; clear hb ho7) | ((with_reducible refine gate_callee (f := 60) rfl ?_); refine goesL_ (some 16) rfl rfl Try.func60 (by kernel_rfl) rfl #[.slice A0 l0.length c0, .int .i64 a1] rfl qq5 ?_; (with_reducible refine (spec_l14Ok.calls k _ _ l0 a1 true _ ?side1 ?side2 A3.out).mono ?_); (case side1 => exact qq13 HR0.out HB.out); (case side2 => exact HC0.out); rintro e w' ⟨rfl, ⟨nd, rfl⟩⟩; refine ⟨_, rfl, ?_⟩) | ((with_reducible refine gate_callee (f := 42) rfl ?_); refine goesL_ (some 20) rfl rfl Try.func42 (by kernel_rfl) rfl #[.slice A0 l0.length c0] rfl qq5 ?_; (with_reducible refine (spec_l14Sum.calls k _ _ l0 t649 _ ?side1 ?side2 A5.out).mono ?_); (case side1 => exact qq61); (case side2 => exact HC0.out); rintro e w' ⟨rfl, ⟨nd, rfl⟩⟩; refine ⟨_, rfl, ?_⟩) | ((with_reducible refine gate_dst (N := 21) rfl ?_); refine Kd.R_lit (Kd.int .i64) _ 3 ?hg (N := 21) ?hd (xs := ([] : List Int)) (inner := []) (ok := fun _ => True) (okp := fun _ => True) ?hr ?hp (fun _ hk => hk) trivial (Below.refl _ _) (Nat.le_refl _) (by simp) ?_; (case hd => rfl); (case hg => rfl); (case hr => exact qq17); (case hp => exact (Reps.none _ _)); intro v651 w8 ho9 hb hg_ hnew_; clear hg_ hnew_; (first | rw [← Ny650.out] at ho9 | (simp only [Int.reduceToNat] at ho9; rw [← Ny650.out] at ho9)); have n0_ := Aside0.mk (Kd.R_elder' (qq2 HO647.out) (Kd.R_base ho9) hb); have n1_ := Aside0.mk (Kd.R_lower (Kd.R_new' ho9 (Kd.R_lt (qq2 HO647.out))) (below_size qq1)); have n2_ := Aside0.mk (below_step qq1 hb); clear HO647; clear HB; have HO647 := n0_; have HO652 := n1_; have HB := n2_; clear n0_ n1_ n2_; clear hb ho9))
    go_loopg [6, 8, 9] k (fun kq v6 v8 v9 w' => ∃ (x6_1 : List Int) (x8_1 : List Int) (x9_1 : Int), v9 = .int .i64 x9_1 ∧ Aside0 (spec_ShareOf.l0 kq l0 a1 x6_1 t649 x8_1 x9_1 = some (r1, r2)) ∧ Aside0 (kq ≤ k) ∧ Aside0 (Kd.R (Kd.int .i64) 3 w' w.heap.size (fun k_ => some k_ ≠ (v8 : Value).ownBlock) v6 x6_1) ∧ Aside0 (Kd.R (Kd.int .i64) 3 w' w.heap.size (fun k_ => some k_ ≠ (v6 : Value).ownBlock) v8 x8_1) ∧ Aside0 (Below w.heap.size w w'))
    case atStart => exact ⟨(y645), (y650), (0), qq9, H', ⟨Nat.le_refl _⟩, ⟨qq18 HO647.out⟩, ⟨qq18 HO652.out⟩, ⟨qq1⟩⟩
    case round =>
      clear H'
      try clear p2
      try clear c4
      try clear c6
      obtain ⟨x6_1, x8_1, x9_1, rfl, HA, HK1, HO_6, HO_8, HB⟩ := hrel
      cases gk with
      | zero => exact absurd HA.out (by simp [spec_ShareOf.l0])
      | succ k1 =>
        have H := HA.out
        clear HA
        simp only [spec_ShareOf.l0] at H
        by_cases c10 : x9_1 < (l0.length : Int)
        · rw [if_pos c10] at H
          have c10b0 : decide (x9_1 < (l0.length : Int)) = true := decide_eq_true c10
          clear c10
          by_cases c11 : 0 ≤ x9_1
          · rw [if_pos c11] at H
            have c11b0 : decide (0 ≤ x9_1) = true := decide_eq_true c11
            clear c11
            replace H := Option.bind_eq_some_iff.mp H
            obtain ⟨t654, A120, H⟩ := H
            replace H : (if x6_1.length < 17592186044416 then (if x8_1.length < 17592186044416 then (spec_ShareOf.l0 k1 l0 a1 (x6_1 ++ [t654]) t649 (x8_1 ++ [wrap64 ((wrap64 (a1 * (rd l0 x9_1))) - (wrap64 (t654 * t649)))]) (wrap64 (x9_1 + 1))) else (none)) else (none)) = some (r1, r2) := H
            have A12 := Aside0.mk A120
            clear A120
            by_cases c13 : x6_1.length < 17592186044416
            · rw [if_pos c13] at H
              have LMc13 := Aside0.mk c13
              clear c13
              obtain ⟨y655, hy655⟩ : ∃ y_ : List Int, y_ = (x6_1 ++ [t654]) := ⟨_, rfl⟩
              replace H : (if x8_1.length < 17592186044416 then (spec_ShareOf.l0 k1 l0 a1 y655 t649 (x8_1 ++ [wrap64 ((wrap64 (a1 * (rd l0 x9_1))) - (wrap64 (t654 * t649)))]) (wrap64 (x9_1 + 1))) else (none)) = some (r1, r2) := by first | (rw [hy655]; with_reducible exact H) | (have H2_ := (Option.bind_some _ _).symm.trans H; rw [hy655]; with_reducible exact H2_) | (have H2_ := (Option.bind_some _ _).symm.trans H; with_reducible exact H2_) | with_reducible exact H | (rw [hy655]; exact H) | exact H
              have Ny655 := Aside0.mk hy655
              clear hy655
              by_cases c14 : x8_1.length < 17592186044416
              · rw [if_pos c14] at H
                have LMc14 := Aside0.mk c14
                clear c14
                obtain ⟨y659, hy659⟩ : ∃ y_ : List Int, y_ = (x8_1 ++ [wrap64 ((wrap64 (a1 * (rd l0 x9_1))) - (wrap64 (t654 * t649)))]) := ⟨_, rfl⟩
                replace H : (spec_ShareOf.l0 k1 l0 a1 y655 t649 y659 (wrap64 (x9_1 + 1))) = some (r1, r2) := by first | (rw [hy659]; with_reducible exact H) | (have H2_ := (Option.bind_some _ _).symm.trans H; rw [hy659]; with_reducible exact H2_) | (have H2_ := (Option.bind_some _ _).symm.trans H; with_reducible exact H2_) | with_reducible exact H | (rw [hy659]; exact H) | exact H
                have Ny659 := Aside0.mk hy659
                clear hy659
                have H' := Aside0.mk H
                clear H
                have p653 : 0 ≤ (x9_1 : Int) := of_decide_eq_true qq3
                have q653 : x9_1 < (l0.length : Int) := of_decide_eq_true qq3
                obtain ⟨ad653, e653, hx653_0⟩ := Kd.at_int HR0.out x9_1 p653 q653
                cases e653
                replace hx653_0 := (HB.out.cell (World.block_lt_of_cell? w _ hx653_0)).trans hx653_0
                replace p653 := eq_true p653
                replace q653 := eq_true q653
                go_wp2_with (first | ((with_reducible refine gate_callee (f := 61) rfl ?_); refine goesL_ (some 35) rfl rfl Try.func61 (by kernel_rfl) rfl #[.int .i64 (wrap64 (a1 * (rd l0 x9_1))), .int .i64 t649] rfl qq5 ?_; (with_reducible refine (spec_l14Floor.calls (wrap64 (a1 * (rd l0 x9_1))) t649 t654 _ A12.out).mono ?_); rintro e w' ⟨rfl, ⟨nd, rfl⟩⟩; refine ⟨_, rfl, ?_⟩) | ((with_reducible refine gate_builtin (b := .append) (xs := #[.tmp 36, .tmp 38]) rfl ?_); at_builtin; refine Kd.R_append (Kd.int .i64) (w0 := w) w.heap.size rfl (.tmp 36) (.tmp 38) 27 3 (.int .i64 0) 8 rfl Try.underlying27 info3 rfl (by decide) (by omega) u6 x6_1 t654 [.int .i64 t654] (fun k_ => some k_ ≠ (u8 : Value).ownBlock) (fun _ => False) rfl rfl ?aP (fun _ hk => hk.elim) ?aF ?aO ?aB ?aS ?aL ?_; (case aP => exact rfl); (case aB => exact qq1); (case aF => exact qq48 HO_8.out); (case aO => exact (qq2 HO_6.out)); (case aS => exact (below_size qq1)); (case aL => have := LMc13.out; omega); intro v656 w15 ho hb hg hat; rw [← Ny655.out] at ho; have n0_ := Aside0.mk (Kd.R_after (ok := (fun _ => True)) (qq23 HO_8.out) hg hat); have n1_ := Aside0.mk (hb); have n2_ := Aside0.mk (ho); clear HO_8; clear HB; clear HO_6; have HO_8 := n0_; have HB := n1_; have HO657 := n2_; clear n0_ n1_ n2_; clear ho hb hg hat; have p658 : 0 ≤ (x9_1 : Int) := of_decide_eq_true qq3; have q658 : x9_1 < (l0.length : Int) := of_decide_eq_true qq3; obtain ⟨ad658, e658, hx658_0⟩ := Kd.at_int HR0.out x9_1 p658 q658; obtain rfl : ad653 = ad658 := (by injection e658); replace hx658_0 := (HB.out.cell (World.block_lt_of_cell? w _ hx658_0)).trans hx658_0; replace p658 := eq_true p658; replace q658 := eq_true q658) | ((with_reducible refine gate_builtin (b := .append) (xs := #[.tmp 40, .tmp 51]) rfl ?_); at_builtin; refine Kd.R_append (Kd.int .i64) (w0 := w) w.heap.size rfl (.tmp 40) (.tmp 51) 27 3 (.int .i64 0) 8 rfl Try.underlying27 info3 rfl (by decide) (by omega) u8 x8_1 (wrap64 ((wrap64 (a1 * (rd l0 x9_1))) - (wrap64 (t654 * t649)))) [.int .i64 (wrap64 ((wrap64 (a1 * (rd l0 x9_1))) - (wrap64 (t654 * t649))))] (fun k_ => some k_ ≠ (v656 : Value).ownBlock) (fun _ => False) rfl rfl ?aP (fun _ hk => hk.elim) ?aF ?aO ?aB ?aS ?aL ?_; (case aP => exact rfl); (case aB => exact qq1); (case aF => exact qq48 HO657.out); (case aO => exact (qq18 HO_8.out)); (case aS => exact (below_size qq1)); (case aL => have := LMc14.out; omega); intro v660 w16 ho hb hg hat; rw [← Ny659.out] at ho; have n0_ := Aside0.mk (Kd.R_after (ok := (fun _ => True)) (qq23 HO657.out) hg hat); have n1_ := Aside0.mk (hb); have n2_ := Aside0.mk (ho); clear HO657; clear HB; clear HO_8; have HO657 := n0_; have HB := n1_; have HO661 := n2_; clear n0_ n1_ n2_; clear ho hb hg hat))
                go_roundg k1
                case measure => have := HK1.out; omega
                case rel => exact ⟨(y655), (y659), (wrap64 (x9_1 + 1)), qq9, H', ⟨by have := HK1.out; omega⟩, ⟨qq18 HO657.out⟩, ⟨qq2 HO661.out⟩, ⟨qq1⟩⟩
              · rw [if_neg c14] at H
                exact absurd H (by simp)
            · rw [if_neg c13] at H
              exact absurd H (by simp)
          · rw [if_neg c11] at H
            exact absurd H (by simp)
        · rw [if_neg c10] at H
          have c10b0 : decide (x9_1 < (l0.length : Int)) = false := decide_eq_false c10
          clear c10
          replace H := Option.bind_eq_some_iff.mp H
          obtain ⟨t662, A170, H⟩ := H
          replace H : (spec_ShareOf.l1 k1 x6_1 x8_1 (wrap64 (a1 - t662))) = some (r1, r2) := H
          have A17 := Aside0.mk A170
          clear A170
          have H' := Aside0.mk H
          clear H
          obtain ⟨Ao18, co18, eo18⟩ := Kd.R_slice HO_6.out
          subst eo18
          go_wp2_with (first | ((with_reducible refine gate_callee (f := 42) rfl ?_); refine goesL_ (some 55) rfl rfl Try.func42 (by kernel_rfl) rfl #[.slice Ao18 x6_1.length co18] rfl qq5 ?_; (with_reducible refine (spec_l14Sum.calls k1 _ _ x6_1 t662 _ ?side1 ?side2 A17.out).mono ?_); (case side1 => exact qq14 HO_6.out); (case side2 => exact qq47 HO_6.out); rintro e w' ⟨rfl, ⟨nd, rfl⟩⟩; refine ⟨_, rfl, ?_⟩))
          go_loopg [11] k1 (fun kq v11 w' => ∃ (x6_2 : List Int) (x8_2 : List Int) (x11_2 : Int), v11 = .int .i64 x11_2 ∧ Aside0 (spec_ShareOf.l1 kq x6_2 x8_2 x11_2 = some (r1, r2)) ∧ Aside0 (kq ≤ k1) ∧ Aside0 (Kd.R (Kd.int .i64) 3 w' w.heap.size (fun k_ => some k_ ≠ (u8 : Value).ownBlock) (.slice Ao18 x6_1.length co18) x6_2) ∧ Aside0 (Kd.R (Kd.int .i64) 3 w' w.heap.size (fun k_ => some k_ ≠ ((.slice Ao18 x6_1.length co18) : Value).ownBlock) u8 x8_2) ∧ Aside0 (Below w.heap.size w w'))
          case atStart => exact ⟨(x6_1), (x8_1), (wrap64 (a1 - t662)), qq9, H', ⟨Nat.le_refl _⟩, ⟨qq2 HO_6.out⟩, ⟨qq2 HO_8.out⟩, ⟨qq1⟩⟩
          case round =>
            clear H'
            try clear c1
            try clear p2
            try clear c4
            try clear c6
            try clear p6
            try clear q6
            try clear hx6
            try clear c10
            try clear c10b0
            try clear c11
            try clear c11b0
            try clear c13
            try clear c14
            try clear hx653_0
            try clear hx658_0
            try clear p2
            try clear p653
            try clear p658
            try clear q653
            try clear q658
            obtain ⟨x6_2, x8_2, x11_2, rfl, HA, HK2, HO_6, HO_8, HB⟩ := hrel
            have hl6_2 := (Kd.R_reads' HO_6.out).1
            rw [hl6_2] at HO_6
            (try simp only [hl6_2])
            (try simp only [hl6_2] at HO_8)
            cases gk with
            | zero => exact absurd HA.out (by simp [spec_ShareOf.l1])
            | succ k2 =>
              have H := HA.out
              clear HA
              simp only [spec_ShareOf.l1] at H
              by_cases c19 : x11_2 > 0
              · rw [if_pos c19] at H
                have c19b0 : decide (0 < x11_2) = true := decide_eq_true c19
                clear c19
                replace H := Option.bind_eq_some_iff.mp H
                obtain ⟨t663, A200, H⟩ := H
                replace H : (if 0 ≤ t663 then (if t663 < (x6_2.length : Int) then (if t663 < (x8_2.length : Int) then (spec_ShareOf.l1 k2 (x6_2.set (t663 : Int).toNat (wrap64 ((rd x6_2 t663) + 1))) (x8_2.set (t663 : Int).toNat (-1)) (wrap64 (x11_2 - 1))) else (none)) else (none)) else (none)) = some (r1, r2) := H
                have A20 := Aside0.mk A200
                clear A200
                by_cases c21 : 0 ≤ t663
                · rw [if_pos c21] at H
                  have c21b0 : decide (0 ≤ t663) = true := decide_eq_true c21
                  clear c21
                  by_cases c22 : t663 < (x6_2.length : Int)
                  · rw [if_pos c22] at H
                    have c22b0 : decide (t663 < (x6_2.length : Int)) = true := decide_eq_true c22
                    clear c22
                    obtain ⟨y665, hy665⟩ : ∃ y_ : List Int, y_ = (x6_2.set (t663 : Int).toNat (wrap64 ((rd x6_2 t663) + 1))) := ⟨_, rfl⟩
                    replace H : (if t663 < (x8_2.length : Int) then (spec_ShareOf.l1 k2 y665 (x8_2.set (t663 : Int).toNat (-1)) (wrap64 (x11_2 - 1))) else (none)) = some (r1, r2) := by first | (rw [hy665]; with_reducible exact H) | (have H2_ := (Option.bind_some _ _).symm.trans H; rw [hy665]; with_reducible exact H2_) | (have H2_ := (Option.bind_some _ _).symm.trans H; with_reducible exact H2_) | with_reducible exact H | (rw [hy665]; exact H) | exact H
                    have Ny665 := Aside0.mk hy665
                    clear hy665
                    by_cases c24 : t663 < (x8_2.length : Int)
                    · rw [if_pos c24] at H
                      have c24b0 : decide (t663 < (x8_2.length : Int)) = true := decide_eq_true c24
                      clear c24
                      obtain ⟨y666, hy666⟩ : ∃ y_ : List Int, y_ = (x8_2.set (t663 : Int).toNat (-1)) := ⟨_, rfl⟩
                      replace H : (spec_ShareOf.l1 k2 y665 y666 (wrap64 (x11_2 - 1))) = some (r1, r2) := by first | (rw [hy666]; with_reducible exact H) | (have H2_ := (Option.bind_some _ _).symm.trans H; rw [hy666]; with_reducible exact H2_) | (have H2_ := (Option.bind_some _ _).symm.trans H; with_reducible exact H2_) | with_reducible exact H | (rw [hy666]; exact H) | exact H
                      have Ny666 := Aside0.mk hy666
                      clear hy666
                      have H' := Aside0.mk H
                      clear H
                      obtain ⟨Ao26, co26, eo26⟩ := Kd.R_slice HO_8.out
                      subst eo26
                      go_wp2_with (first | ((with_reducible refine gate_callee (f := 62) rfl ?_); refine goesL_ (some 62) rfl rfl Try.func62 (by kernel_rfl) rfl #[.slice Ao26 x8_2.length co26] rfl qq5 ?_; (with_reducible refine (spec_l14Next.calls k2 _ _ x8_2 t663 _ ?side1 ?side2 A20.out).mono ?_); (case side1 => exact qq14 HO_8.out); (case side2 => exact qq47 HO_8.out); rintro e w' ⟨rfl, ⟨nd, rfl⟩⟩; refine ⟨_, rfl, ?_⟩; (try ((first | (generalize hq_ : World.drewN wr _ = wr) | (rw [drewN_self wr]; generalize hq_ : World.drewN wr _ = wr)); have n0_ : Aside0 (Kd.R (Kd.int .i64) 3 wr w.heap.size (fun k_ => some k_ ≠ (.slice Ao26 x8_2.length co26 : Value).ownBlock) (.slice Ao18 x6_2.length co18) x6_2) := ⟨by rw [← hq_]; exact (qq2 HO_6.out)⟩; have n1_ : Aside0 (Kd.R (Kd.int .i64) 3 wr w.heap.size (fun k_ => some k_ ≠ (.slice Ao18 x6_2.length co18 : Value).ownBlock) (.slice Ao26 x8_2.length co26) x8_2) := ⟨by rw [← hq_]; exact (qq2 HO_8.out)⟩; have n2_ : Aside0 (Below w.heap.size w wr) := ⟨by rw [← hq_]; exact qq1⟩; clear HO_6 HO_8 HB hq_; have HO_6 := n0_; have HO_8 := n1_; have HB := n2_; clear n0_ n1_ n2_)); have p664 : 0 ≤ (t663 : Int) := of_decide_eq_true qq3; have q664 : t663 < (x6_2.length : Int) := of_decide_eq_true qq3; obtain ⟨ad664, e664, hx664_0⟩ := Kd.at_int (Kd.R_reads' HO_6.out).2.2 t663 p664 q664; cases e664; replace p664 := eq_true p664; replace q664 := eq_true q664; have p23 : 0 ≤ (t663 : Int) := of_decide_eq_true qq3; have q23 : (t663 : Int) < ((x6_2.length : Int) : Int) := of_decide_eq_true qq3; obtain ⟨go23, co23, eo23, gb23, gl23, cl23, HG23⟩ := Kd.R_form HO_6.out (by omega); (first | cases eo23 | (injection eo23 with ea_ en_ ec_; (first | subst ea_ | (injection ea_ with ea_; subst ea_)); subst ec_; clear en_)); have GB23 := Aside0.mk gb23; have GG23 := Aside0.mk HG23; clear gb23 gl23 HG23; (first | simp only [add_plain] at hx664_0 | skip); obtain ⟨hx23_0, hf23_0⟩ := Kd.R_celln 0 HO_6.out (t663 : Int) p23 q23; replace p23 := eq_true p23; replace q23 := eq_true q23; obtain ⟨hy27_, hz27_⟩ := Kd.R_celln 0 HO_6.out (t663 : Int) (of_decide_eq_true qq3) (of_decide_eq_true qq3); have HP27 := Kd.R_putg HO_6.out (t663 : Int) (wrap64 ((rd x6_2 t663) + 1))) | ((with_reducible refine gate_store (t := 3) (p := 70) rfl ?_); refine store_event (t := 3) (p := 70) (v := ?vo_w28) (w1 := (wr.setCell ⟨go23, (t663 : Int).toNat, none⟩ (.int .i64 (wrap64 ((rd x6_2 t663) + 1))))) ?hg ?ho ?hn ?hr ?_; (case ho => rfl); (case hg => rfl); (case hn => rfl); (case hr => exact qq17); intro w28 hw; have hg : wr.grownBy w28 (some go23) := (by rw [hw]; exact HP27.2); have hp_ : Kd.R (Kd.int .i64) 3 w28 w.heap.size (fun k_ => some k_ ≠ (.slice Ao26 x8_2.length co26 : Value).ownBlock) (.slice (some ⟨go23, 0, none⟩) x6_2.length co18) y665 := (by rw [hw, Ny665.out]; exact HP27.1); clear HP27; have n0_ := Aside0.mk (hp_); have n1_ := Aside0.mk (Kd.R_after (v := (.slice (some ⟨go23, 0, none⟩) x6_2.length co18)) (v1 := (.slice (some ⟨go23, 0, none⟩) x6_2.length co18)) (ok := (fun _ => True)) (qq23 HO_8.out) hg (.inl rfl)); have n2_ := Aside0.mk ((by rw [hw]; exact below_set (HB.out) GB23.out : Below w.heap.size w w28)); clear HO_6; clear HO_8; clear HB; have HO_6 := n0_; have HO_8 := n1_; have HB := n2_; clear n0_ n1_ n2_; clear hg hw hp_; have p25 : 0 ≤ (t663 : Int) := of_decide_eq_true qq3; have q25 : (t663 : Int) < ((x8_2.length : Int) : Int) := of_decide_eq_true qq3; obtain ⟨go25, co25, eo25, gb25, gl25, cl25, HG25⟩ := Kd.R_form HO_8.out (by omega); (first | cases eo25 | (injection eo25 with ea_ en_ ec_; (first | subst ea_ | (injection ea_ with ea_; subst ea_)); subst ec_; clear en_)); have GB25 := Aside0.mk gb25; have GG25 := Aside0.mk HG25; clear gb25 gl25 HG25; obtain ⟨hx25_0, hf25_0⟩ := Kd.R_celln 0 HO_8.out (t663 : Int) p25 q25; replace p25 := eq_true p25; replace q25 := eq_true q25; have n_ := Aside0.mk (Kd.R_mono (ok' := (fun k_ => some k_ ≠ (.slice (some ⟨go23, 0, none⟩) x6_2.length co18 : Value).ownBlock)) HO_8.out (fun k_ hk => hk.2)); clear HO_8; have HO_8 := n_; clear n_; obtain ⟨hy29_, hz29_⟩ := Kd.R_celln 0 HO_8.out (t663 : Int) (of_decide_eq_true qq3) (of_decide_eq_true qq3); have HP29 := Kd.R_putg HO_8.out (t663 : Int) (-1)) | ((with_reducible refine gate_store (t := 3) (p := 73) rfl ?_); refine store_event (t := 3) (p := 73) (v := ?vo_w30) (w1 := (w28.setCell ⟨go25, (t663 : Int).toNat, none⟩ (.int .i64 (-1)))) ?hg ?ho ?hn ?hr ?_; (case ho => rfl); (case hg => rfl); (case hn => rfl); (case hr => exact qq17); intro w30 hw; have hg : w28.grownBy w30 (some go25) := (by rw [hw]; exact HP29.2); have hp_ : Kd.R (Kd.int .i64) 3 w30 w.heap.size (fun k_ => some k_ ≠ (.slice (some ⟨go23, 0, none⟩) x6_2.length co18 : Value).ownBlock) (.slice (some ⟨go25, 0, none⟩) x8_2.length co26) y666 := (by rw [hw, Ny666.out]; exact HP29.1); clear HP29; have n0_ := Aside0.mk (Kd.R_after (v := (.slice (some ⟨go25, 0, none⟩) x8_2.length co26)) (v1 := (.slice (some ⟨go25, 0, none⟩) x8_2.length co26)) (ok := (fun _ => True)) (qq23 HO_6.out) hg (.inl rfl)); have n1_ := Aside0.mk (hp_); have n2_ := Aside0.mk ((by rw [hw]; exact below_set (HB.out) GB25.out : Below w.heap.size w w30)); clear HO_6; clear HO_8; clear HB; have HO_6 := n0_; have HO_8 := n1_; have HB := n2_; clear n0_ n1_ n2_; clear hg hw hp_))
                      (try simp only [← hl6_2])
                      go_roundg k2
                      case measure => have := HK1.out; have := HK2.out; omega
                      case rel => exact ⟨(y665), (y666), (wrap64 (x11_2 - 1)), qq9, H', ⟨qq68 HK1.out HK2.out⟩, ⟨by (try simp only [hl6_2]); (with_reducible repeat (first | apply Kd.R_alloc | apply Kd.R_drewN | apply Kd.R_drew)); exact Kd.R_mono HO_6.out (fun _ hk => hk.2)⟩, ⟨by (try simp only [hl6_2]); (with_reducible repeat (first | apply Kd.R_alloc | apply Kd.R_drewN | apply Kd.R_drew)); exact HO_8.out⟩, ⟨qq1⟩⟩
                    · rw [if_neg c24] at H
                      exact absurd H (by simp)
                  · rw [if_neg c22] at H
                    exact absurd H (by simp)
                · rw [if_neg c21] at H
                  exact absurd H (by simp)
              · rw [if_neg c19] at H
                have c19b0 : decide (0 < x11_2) = false := decide_eq_false c19
                clear c19
                simp only [Option.some.injEq, Prod.mk.injEq] at H
                obtain ⟨rfl, rfl⟩ := H
                go_wp2
                go_ret2
                exact ⟨_, qq12, qq21 HO_6.out, qq1⟩
  · replace c4 := Bool.eq_false_iff.mpr c4
    subst c4
    have H1 : (some (y645, false)) = some (r1, r2) := by rw [if_neg (show ¬ (false = true) by decide)] at H; exact H
    clear H
    have H := H1
    clear H1
    simp only [Option.some.injEq, Prod.mk.injEq] at H
    obtain ⟨rfl, rfl⟩ := H
    go_enter Try.func41, Try.ntmps41
    go_wp2_with (first | ((with_reducible refine gate_dst (N := 13) rfl ?_); refine Kd.R_lit (Kd.int .i64) _ 3 ?hg (N := 13) ?hd (xs := ([] : List Int)) (inner := []) (ok := fun _ => True) (okp := fun _ => True) ?hr ?hp (fun _ hk => hk) trivial (Below.refl _ _) (Nat.le_refl _) (by simp) ?_; (case hd => rfl); (case hg => rfl); (case hr => exact qq17); (case hp => exact (Reps.none _ _)); intro v646 w31 ho32 hb hg_ hnew_; clear hg_ hnew_; (first | rw [← Ny645.out] at ho32 | (simp only [Int.reduceToNat] at ho32; rw [← Ny645.out] at ho32)); have n0_ := Aside0.mk (Kd.R_lower ho32 (below_size qq1)); have n1_ := Aside0.mk (below_step qq1 hb); clear HB; have HO647 := n0_; have HB := n1_; clear n0_ n1_; clear hb ho32) | ((with_reducible refine gate_callee (f := 60) rfl ?_); refine goesL_ (some 16) rfl rfl Try.func60 (by kernel_rfl) rfl #[.slice A0 l0.length c0, .int .i64 a1] rfl qq5 ?_; (with_reducible refine (spec_l14Ok.calls k _ _ l0 a1 false _ ?side1 ?side2 A3.out).mono ?_); (case side1 => exact qq13 HR0.out HB.out); (case side2 => exact HC0.out); rintro e w' ⟨rfl, ⟨nd, rfl⟩⟩; refine ⟨_, rfl, ?_⟩))
    go_ret2
    exact ⟨_, qq12, qq2 HO647.out, qq1⟩

end Go.Proofs.Ytmcfhmflncghiaa.Q
namespace Go.Proofs.Ytmcfhmflncghiaa.Pure
open Go.RowKit Go.Proofs.Ytmcfhmflncghiaa.Q Go.Proofs.YtmcfhmflncghiaaW.PrintWords Go.Proofs.YtmcfhmflncghiaaW.PrintLast Go.Proofs.YtmcfhmflncghiaaW.PrintMore

/-- Go's division and what is left, for a divisor greater than 0, by the one that rounds down. -/
theorem tparts (a b : Int) (hb : 0 < b) : (Int.tmod a b < 0 → Int.tdiv a b - 1 = a / b ∧ Int.tmod a b + b = a % b) ∧ (¬ Int.tmod a b < 0 → Int.tdiv a b = a / b ∧ Int.tmod a b = a % b) := by
  have h1 : Int.tdiv a b * b + Int.tmod a b = a := Int.tdiv_mul_add_tmod a b
  have h2 : Int.tmod a b < b := Int.tmod_lt_of_pos a hb
  have h3 : -b < Int.tmod a b := by
    rcases Int.lt_or_le a 0 with h | h
    · have e : Int.tmod a b = -(Int.tmod (-a) b) := by rw [Int.neg_tmod]; omega
      have := Int.tmod_lt_of_pos (-a) hb
      omega
    · have := Int.tmod_nonneg b h; omega
  generalize Int.tdiv a b = q at *
  generalize Int.tmod a b = r at *
  constructor
  · intro h
    have := (Int.ediv_emod_unique (a := a) (b := b) (r := r + b) (q := q - 1) hb).2 ⟨by rw [← h1, Int.mul_sub, Int.mul_comm b q]; omega, by omega, by omega⟩
    exact ⟨this.1.symm, this.2.symm⟩
  · intro h
    have := (Int.ediv_emod_unique (a := a) (b := b) (r := r) (q := q) hb).2 ⟨by rw [← h1, Int.mul_comm b q]; omega, by omega, by omega⟩
    exact ⟨this.1.symm, this.2.symm⟩
theorem ediv_bd {a b : Int} (hb : 0 < b) (ha : -4611686018427387904 ≤ a ∧ a ≤ 4611686018427387904) : -4611686018427387905 ≤ a / b ∧ a / b ≤ 4611686018427387904 := by
  have h1 := Int.mul_ediv_add_emod a b
  have h2 := Int.emod_nonneg a (show b ≠ 0 by omega)
  have h3 := Int.emod_lt_of_pos a hb
  constructor
  · rcases Int.lt_or_le (a / b) (-4611686018427387905) with q | q
    · have : b * (a / b) ≤ b * (-4611686018427387906) := Int.mul_le_mul_of_nonneg_left (by omega) (by omega)
      omega
    · exact q
  · rcases Int.lt_or_le 4611686018427387904 (a / b) with q | q
    · have : b * 4611686018427387905 ≤ b * (a / b) := Int.mul_le_mul_of_nonneg_left (by omega) (by omega)
      omega
    · exact q
theorem l14Floor_eq (a b : Int) (hb : 0 < b) (ha : -4611686018427387904 ≤ a ∧ a ≤ 4611686018427387904) : spec_l14Floor.f a b = some (a / b) := by
  unfold spec_l14Floor.f
  have hp := tparts a b hb
  have hd := ediv_bd hb ha
  rw [if_neg (by omega)]
  by_cases h : Int.tmod a b < 0
  · have h1 := (hp.1 h).1
    rw [if_pos h, sw64 (x := Int.tdiv a b) (by omega) (by omega), sw64 (by omega) (by omega), h1]
  · have h1 := (hp.2 h).1
    rw [if_neg h, sw64 (by omega) (by omega), h1]

/-- The shares rounded down, and what is left of them. -/
def fl (l : List Int) (a : Int) : List Int := l.map fun x => a * x / l.sum
def rs (l : List Int) (a : Int) : List Int := l.map fun x => a * x % l.sum

/-- The first index with the greatest number. -/
def nextI (r : List Int) : List Int → Nat → Nat → Nat
  | [], _, b => b
  | y :: s, i, b => if y > rd r b then nextI r s (i + 1) i else nextI r s (i + 1) b
def nextR (r : List Int) : Nat := nextI r r 0 0
theorem l14Next_l0 {r : List Int} (suf : List Int) : ∀ (pre : List Int) (b k : Nat), suf.length < k → r = pre ++ suf → r.length < 4611686018427387904 → b < r.length →
    spec_l14Next.l0 k r (b : Int) (pre.length : Int) = some (nextI r suf pre.length b : Int) := by
  induction suf with
  | nil =>
    intro pre b k hk hr hl hb
    obtain ⟨k, rfl⟩ : ∃ m, k = m + 1 := ⟨k - 1, by omega⟩
    simp only [spec_l14Next.l0, nextI]
    rw [if_neg (by rw [hr]; simp)]
  | cons y suf ih =>
    intro pre b k hk hr hl hb
    simp only [List.length_cons] at hk
    have hlen : r.length = pre.length + suf.length + 1 := by rw [hr]; simp; omega
    obtain ⟨k, rfl⟩ : ∃ m, k = m + 1 := ⟨k - 1, by omega⟩
    have hy : rd r (pre.length : Int) = y := by rw [hr]; exact rd_mid pre suf y
    simp only [spec_l14Next.l0, nextI]
    rw [if_pos (by omega), if_pos (by omega), if_pos (by omega), if_pos (by omega), hy, next_mid pre y (by omega)]
    by_cases h : y > rd r (b : Int)
    · rw [if_pos h, if_pos h]
      have := ih (pre ++ [y]) pre.length k (by omega) (by rw [hr]; simp) hl (by omega)
      rw [List.length_append, List.length_singleton] at this ⊢
      exact this
    · rw [if_neg h, if_neg h]
      have := ih (pre ++ [y]) b k (by omega) (by rw [hr]; simp) hl hb
      rw [List.length_append, List.length_singleton] at this ⊢
      exact this
theorem nextI_lt {r : List Int} (suf : List Int) : ∀ (i b : Nat), i + suf.length ≤ r.length → b < r.length → nextI r suf i b < r.length := by
  induction suf with
  | nil => intro i b _ hb; exact hb
  | cons y s ih =>
    intro i b hi hb
    simp only [List.length_cons] at hi
    simp only [nextI]
    split
    · exact ih (i + 1) i (by omega) (by omega)
    · exact ih (i + 1) b (by omega) hb
theorem nextR_lt {r : List Int} (h : 0 < r.length) : nextR r < r.length := nextI_lt r 0 0 (by omega) h
theorem l14Next_eq (k : Nat) (r : List Int) (hk : r.length < k) (hl : r.length ≤ 1000000) (h0 : 0 < r.length) : spec_l14Next.f k r = some (nextR r : Int) := by
  have := l14Next_l0 (r := r) r [] 0 k hk rfl (by omega) h0
  simpa [spec_l14Next.f, nextR] using this

/-- So many more are made 1 greater, those with the greatest remainders first. -/
def pickN : Nat → List Int → List Int → List Int
  | 0, out, _ => out
  | m + 1, out, r => pickN m (out.set (nextR r) (rd out (nextR r) + 1)) (r.set (nextR r) (-1))
theorem set_bd {out : List Int} {B x : Int} {i : Nat} (h : ∀ y ∈ out, -B ≤ y ∧ y ≤ B) (hx : -B ≤ x ∧ x ≤ B) : ∀ y ∈ out.set i x, -B ≤ y ∧ y ≤ B := by
  intro y hy
  rcases List.mem_or_eq_of_mem_set hy with h1 | h1
  · exact h y h1
  · rw [h1]; exact hx
theorem rd_mem_bd {out : List Int} {B : Int} (hB : 0 ≤ B) (h : ∀ y ∈ out, -B ≤ y ∧ y ≤ B) (i : Int) : -B ≤ rd out i ∧ rd out i ≤ B := by
  unfold rd
  by_cases hi : i.toNat < out.length
  · rw [List.getD_eq_getElem?_getD, List.getElem?_eq_getElem hi]; exact h _ (List.getElem_mem hi)
  · rw [List.getD_eq_getElem?_getD, List.getElem?_eq_none (by omega)]; simp; omega
theorem ShareOf_l1 (m : Nat) : ∀ (out r : List Int) (B : Nat) (k : Nat), m + r.length + 2 < k → out.length = r.length → 0 < r.length → r.length ≤ 1000 → (∀ y ∈ out, -(B : Int) ≤ y ∧ y ≤ B) → B + m ≤ 4611686018427387904 →
    spec_ShareOf.l1 k out r (m : Int) = some (pickN m out r, true) := by
  induction m with
  | zero =>
    intro out r B k hk hl h0 _ hB _
    obtain ⟨k, rfl⟩ : ∃ m, k = m + 1 := ⟨k - 1, by omega⟩
    simp [spec_ShareOf.l1, pickN]
  | succ m ih =>
    intro out r B k hk hl h0 hr hB hm
    obtain ⟨k, rfl⟩ : ∃ m, k = m + 1 := ⟨k - 1, by omega⟩
    simp only [spec_ShareOf.l1, pickN]
    have hlt := nextR_lt h0
    have hb := rd_mem_bd (B := B) (by omega) hB (nextR r : Int)
    rw [if_pos (by omega), l14Next_eq k r (by omega) (by omega) h0]
    simp only [Option.bind_some]
    rw [if_pos (by omega), if_pos (by omega), if_pos (by omega), sw64 (x := rd out (nextR r : Int) + 1) (by omega) (by omega), sw64 (x := ((m + 1 : Nat) : Int) - 1) (by omega) (by omega), Int.toNat_natCast,
      show ((m + 1 : Nat) : Int) - 1 = (m : Int) by omega]
    refine ih _ _ (B + 1) k (by simp; omega) (by simp [hl]) (by simp; omega) (by simp; omega) ?_ (by omega)
    exact set_bd (fun y hy => by have := hB y hy; omega) (by omega)

/-- What the reference's ShareOf answers. -/
def shR (l : List Int) (a : Int) : List Int × Bool := if AV l a then (pickN (a - (fl l a).sum).toNat (fl l a) (rs l a), true) else ([], false)

theorem prod_bd {l : List Int} {a : Int} (h : AV l a) {x : Int} (hx : x ∈ l) : -100000000000 ≤ a * x ∧ a * x ≤ 100000000000 := by
  have h1 := h.1.1 x hx
  have := mulb (x := a) (y := x) (m := 10000000) (n := 10000) h.2 (by omega) (by omega) (by omega)
  omega
theorem fl_bd {l : List Int} {a : Int} (h : AV l a) : ∀ y ∈ fl l a, -((100000000001 : Nat) : Int) ≤ y ∧ y ≤ (100000000001 : Nat) := by
  intro y hy
  obtain ⟨x, hx, rfl⟩ := List.mem_map.1 hy
  have hp := prod_bd h hx
  have hs := h.1.sum
  have h1 := Int.mul_ediv_add_emod (a * x) l.sum
  have h2 := Int.emod_nonneg (a * x) (show l.sum ≠ 0 by omega)
  have h3 := Int.emod_lt_of_pos (a * x) hs.1
  constructor
  · rcases Int.lt_or_le (a * x / l.sum) (-100000000001) with q | q
    · have : l.sum * (a * x / l.sum) ≤ l.sum * (-100000000002) := Int.mul_le_mul_of_nonneg_left (by omega) (by omega)
      have : 1 * 100000000002 ≤ l.sum * 100000000002 := Int.mul_le_mul_of_nonneg_right (by omega) (by omega)
      omega
    · omega
  · rcases Int.lt_or_le 100000000001 (a * x / l.sum) with q | q
    · have : l.sum * 100000000002 ≤ l.sum * (a * x / l.sum) := Int.mul_le_mul_of_nonneg_left (by omega) (by omega)
      have : 1 * 100000000002 ≤ l.sum * 100000000002 := Int.mul_le_mul_of_nonneg_right (by omega) (by omega)
      omega
    · omega

/-- The sum of what is left is the sum of all lengths, so many times as are missing. -/
theorem missing_mul (a s : Int) (_hs : 0 < s) (l : List Int) : a * l.sum - s * (l.map fun x => a * x / s).sum = (l.map fun x => a * x % s).sum := by
  induction l with
  | nil => simp
  | cons y l ih =>
    simp only [List.sum_cons, List.map_cons]
    have := Int.mul_ediv_add_emod (a * y) s
    rw [Int.mul_add, Int.mul_add]
    omega
theorem rs_sum_bd (a s : Int) (hs : 0 < s) (l : List Int) : 0 ≤ (l.map fun x => a * x % s).sum ∧ (l.map fun x => a * x % s).sum ≤ s * l.length := by
  induction l with
  | nil => simp
  | cons y l ih =>
    simp only [List.sum_cons, List.map_cons, List.length_cons]
    have h2 := Int.emod_nonneg (a * y) (show s ≠ 0 by omega)
    have h3 := Int.emod_lt_of_pos (a * y) hs
    have e : s * ((l.length + 1 : Nat) : Int) = s * l.length + s := by rw [Int.natCast_add, Int.mul_add]; omega
    omega
/-- So many are missing as at most there are lengths, less 1. -/
theorem missing_bd {l : List Int} {a : Int} (h : AV l a) : 0 ≤ a - (fl l a).sum ∧ a - (fl l a).sum ≤ l.length := by
  have hs := h.1.sum
  have h1 := missing_mul a l.sum hs.1 l
  have h2 := rs_sum_bd a l.sum hs.1 l
  have e : l.sum * (a - (fl l a).sum) = (l.map fun x => a * x % l.sum).sum := by
    rw [← h1, Int.mul_sub, Int.mul_comm l.sum a]; rfl
  constructor
  · rcases Int.lt_or_le (a - (fl l a).sum) 0 with q | q
    · have := Int.mul_neg_of_pos_of_neg hs.1 q; omega
    · exact q
  · rcases Int.lt_or_le (l.length : Int) (a - (fl l a).sum) with q | q
    · have : l.sum * ((l.length : Int) + 1) ≤ l.sum * (a - (fl l a).sum) := Int.mul_le_mul_of_nonneg_left (by omega) (by omega)
      rw [Int.mul_add] at this
      omega
    · exact q

theorem ShareOf_l0 {l : List Int} {a : Int} (h : AV l a) (suf : List Int) : ∀ (pre : List Int) (k : Nat), suf.length + 100 < k → l = pre ++ suf →
    spec_ShareOf.l0 k l a (pre.map fun x => a * x / l.sum) l.sum (pre.map fun x => a * x % l.sum) (pre.length : Int) = some (pickN (a - (fl l a).sum).toNat (fl l a) (rs l a), true) := by
  have h20 := h.1.2.2.1
  have h1 := h.1.2.1
  have hs := h.1.sum
  induction suf with
  | nil =>
    intro pre k hk hl
    obtain ⟨k, rfl⟩ : ∃ m, k = m + 1 := ⟨k - 1, by omega⟩
    rw [List.append_nil] at hl
    subst hl
    simp only [spec_ShareOf.l0]
    have hm := missing_bd h
    rw [if_neg (by omega)]
    have hB := fl_bd h
    show ((spec_l14Sum.f k (fl l a)).bind fun t208 => (spec_ShareOf.l1 k (fl l a) (rs l a) (wrap64 (a - t208)))) = _
    have hlf : (fl l a).length = l.length := by simp [fl]
    have hlr : (rs l a).length = l.length := by simp [rs]
    rw [l14Sum_eq k 100000000001 (fl l a) (by omega) hB (by omega) (by omega)]
    simp only [Option.bind_some]
    have ha := h.2
    rw [sw64 (by omega) (by omega)]
    have e : a - (fl l a).sum = (((a - (fl l a).sum).toNat : Nat) : Int) := by omega
    rw [e, Int.toNat_natCast]
    exact ShareOf_l1 _ _ _ 100000000001 k (by omega) (by omega) (by omega) (by omega) hB (by omega)
  | cons y suf ih =>
    intro pre k hk hl
    simp only [List.length_cons] at hk
    have hlen : l.length = pre.length + suf.length + 1 := by rw [hl]; simp; omega
    obtain ⟨k, rfl⟩ : ∃ m, k = m + 1 := ⟨k - 1, by omega⟩
    have hy : rd l (pre.length : Int) = y := by rw [hl]; exact rd_mid pre suf y
    have hmem : y ∈ l := by rw [hl]; simp
    have hp := prod_bd h hmem
    simp only [spec_ShareOf.l0]
    rw [if_pos (by omega), if_pos (by omega), hy, sw64 (x := a * y) (by omega) (by omega), l14Floor_eq (a * y) l.sum hs.1 (by omega)]
    simp only [Option.bind_some]
    have hd := Int.mul_ediv_add_emod (a * y) l.sum
    have h2 := Int.emod_nonneg (a * y) (show l.sum ≠ 0 by omega)
    have h3 := Int.emod_lt_of_pos (a * y) hs.1
    have e : a * y / l.sum * l.sum = a * y - a * y % l.sum := by rw [Int.mul_comm]; omega
    rw [if_pos (by simp; omega), if_pos (by simp; omega), next_mid pre y (by omega), e, sw64 (x := a * y - a * y % l.sum) (by omega) (by omega), sw64 (by omega) (by omega), show a * y - (a * y - a * y % l.sum) = a * y % l.sum by omega]
    have := ih (pre ++ [y]) k (by omega) (by rw [hl]; simp)
    simpa using this
theorem spec_ShareOf_eq (k : Nat) (l : List Int) (a : Int) (hk : 2 * l.length + 200 < k) (hl : l.length ≤ 1048576) : spec_ShareOf.f k l a = some (shR l a) := by
  simp only [spec_ShareOf.f, l14Ok_eq k l a (by omega) hl, Option.bind_some]
  unfold shR
  by_cases h : AV l a
  · have h20 := h.1.2.2.1
    rw [if_pos (by simpa using h), if_pos h, l14Sum_eq k 10000 l (by omega) (fun x hx => by have := h.1.1 x hx; omega) (by omega) (by omega)]
    simp only [Option.bind_some]
    have := ShareOf_l0 h l [] k (by omega) rfl
    simpa using this
  · rw [if_neg (by simpa using h), if_neg h]
theorem pickN_length (m : Nat) : ∀ (out r : List Int), (pickN m out r).length = out.length := by
  induction m with
  | zero => intro out r; rfl
  | succ m ih => intro out r; simp only [pickN]; rw [ih, List.length_set]
end Go.Proofs.Ytmcfhmflncghiaa.Pure
namespace Go.Proofs.Ytmcfhmflncghiaa.Pure
open Go.RowKit Go.Proofs.Ytmcfhmflncghiaa.Q Go.Proofs.YtmcfhmflncghiaaW.PrintWords Go.Proofs.YtmcfhmflncghiaaW.PrintLast Go.Proofs.YtmcfhmflncghiaaW.PrintMore Go.Proofs.Ytmcfhmflncghiaa.HeapW
set_option linter.unusedVariables false
theorem nextI_is {r : List Int} {j : Nat} (hmax : ∀ k : Nat, k < r.length → rd r (k : Int) ≤ rd r (j : Int)) (hfst : ∀ k : Nat, k < j → rd r (k : Int) < rd r (j : Int)) (suf : List Int) :
    ∀ (pre : List Int) (b : Nat), r = pre ++ suf → (j < pre.length → b = j) → (pre.length ≤ j → j < r.length ∧ (b = j ∨ rd r (b : Int) < rd r (j : Int))) → nextI r suf pre.length b = j := by
  induction suf with
  | nil =>
    intro pre b hr h1 h2
    have : r.length = pre.length := by rw [hr]; simp
    simp only [nextI]
    by_cases c : j < pre.length
    · exact h1 c
    · have := h2 (by omega); omega
  | cons y suf ih =>
    intro pre b hr h1 h2
    have hlen : r.length = pre.length + suf.length + 1 := by rw [hr]; simp; omega
    have hy : rd r (pre.length : Int) = y := by rw [hr]; exact rd_mid pre suf y
    have hr' : r = (pre ++ [y]) ++ suf := by rw [hr]; simp
    have hl' : (pre ++ [y]).length = pre.length + 1 := by simp
    simp only [nextI]
    have hm := hmax pre.length (by omega)
    rw [← hl']
    by_cases c : y > rd r (b : Int)
    · rw [if_pos c]
      refine ih (pre ++ [y]) pre.length hr' (fun q => ?_) (fun q => ?_)
      · rw [hl'] at q
        by_cases e : j = pre.length
        · exact e.symm
        · have := h1 (by omega); subst this; omega
      · rw [hl'] at q
        refine ⟨(h2 (by omega)).1, Or.inr ?_⟩
        exact hfst _ (by omega)
    · rw [if_neg c]
      refine ih (pre ++ [y]) b hr' (fun q => ?_) (fun q => ?_)
      · rw [hl'] at q
        by_cases e : j = pre.length
        · rcases (h2 (by omega)).2 with h | h
          · exact h
          · rw [e, hy] at h; omega
        · exact h1 (by omega)
      · rw [hl'] at q
        exact h2 (by omega)
theorem nextR_is {r : List Int} {j : Nat} (hj : j < r.length) (hmax : ∀ k : Nat, k < r.length → rd r (k : Int) ≤ rd r (j : Int)) (hfst : ∀ k : Nat, k < j → rd r (k : Int) < rd r (j : Int)) : nextR r = j := by
  unfold nextR
  refine nextI_is hmax hfst r [] 0 rfl (fun q => by simp at q) (fun _ => ⟨hj, ?_⟩)
  by_cases c : 0 = j
  · exact Or.inl c
  · exact Or.inr (hfst 0 (by omega))
theorem top_next {R : Nat → Int} {a : Nat → Rem} {n : Nat} {r : List Int} {m i0 : Nat} (h : GoodH R a n r m) (hp : Hp a 0 m) (hm : m ≤ n) (h0 : 0 < m) (hr : r.length = n) (hi0 : i0 < n) (e0 : a 0 = rem0 R i0) (hR : ∀ i, i < n → 0 ≤ R i) : nextR r = i0 := by
  have r0 : rd r (i0 : Int) = R i0 := h.on 0 i0 h0 e0
  have key : ∀ i : Nat, i < n → (rd r (i : Int) = -1) ∨ (rd r (i : Int) = R i ∧ ¬ (R i0 < R i ∨ (R i = R i0 ∧ i < i0))) := by
    intro i hi
    obtain ⟨k, hk, e⟩ := h.sur i hi
    by_cases c : k < m
    · right
      refine ⟨h.on k i c e, ?_⟩
      have := hp_top hp k c
      rw [e, e0, nless_iff] at this
      simp only [rem0] at this
      omega
    · exact Or.inl (h.off k i (by omega) hk e)
  have hR0 := hR i0 hi0
  refine nextR_is (by omega) (fun k hk => ?_) (fun k hk => ?_)
  · rcases key k (by omega) with q | q <;> omega
  · rcases key k (by omega) with q | q <;> omega
/-- The remainders still there, when p are taken. -/
def RS (R : Nat → Int) (n : Nat) (r : List Int) : Nat → List Int
  | 0 => r
  | p + 1 => (RS R n r p).set (AA R n (p + 1) (n - p - 1)).1.toNat (-1)
theorem RS_len (R : Nat → Int) (n : Nat) (r : List Int) (p : Nat) : (RS R n r p).length = r.length := by
  induction p with
  | zero => rfl
  | succ p ih => simp only [RS]; rw [List.length_set, ih]
theorem good_ini (R : Nat → Int) (n : Nat) (r : List Int) (hr : ∀ i : Nat, i < n → rd r (i : Int) = R i) : GoodH R (rem0 R) n r n :=
  ⟨fun k hk => ⟨k, hk, rfl⟩, fun j k _ _ e => rem0_inj e, fun i hi => ⟨i, hi, rfl⟩, fun k i hk e => by rw [← rem0_inj e]; exact hr k hk, fun k i h1 h2 _ => by omega⟩
theorem good_all (R : Nat → Int) (n : Nat) (r : List Int) (hl : r.length = n) (hr : ∀ i : Nat, i < n → rd r (i : Int) = R i) (hR : ∀ i, i < n → 0 ≤ R i) (p : Nat) : p ≤ n → GoodH R (AA R n p) n (RS R n r p) (n - p) ∧ Hp (AA R n p) 0 (n - p) ∧
    ∀ q, q < p → (AA R n (q + 1) (n - q - 1)).1.toNat < n ∧ (AA R n (q + 1) (n - q - 1)).1 = ((AA R n (q + 1) (n - q - 1)).1.toNat : Int) ∧ nextR (RS R n r q) = (AA R n (q + 1) (n - q - 1)).1.toNat := by
  induction p with
  | zero =>
    intro _
    have h := ini_ok (n / 2) (rem0 R) n (by omega) (fun j h1 h2 h3 => by omega)
    exact ⟨(good_ini R n r hr).perm (Nat.le_refl _) h.2, h.1, fun q hq => by omega⟩
  | succ p ih =>
    intro hp
    obtain ⟨hg, hh, hq⟩ := ih (by omega)
    obtain ⟨i0, hi0, e0⟩ := hg.ex 0 (by omega)
    have hlen : (RS R n r p).length = n := by rw [RS_len, hl]
    have hpop := hg.pop (by omega) (by omega) hlen hi0 e0
    have hnx := top_next hg hh (by omega) (by omega) hlen hi0 e0 hR
    have e2 : AA R n (p + 1) = topR (AA R n p) (n - p) := rfl
    have e3 : (AA R n (p + 1) (n - p - 1)).1.toNat = i0 := by rw [e2, hpop.2]; simp [rem0]
    refine ⟨?_, ?_, ?_⟩
    · have : RS R n r (p + 1) = (RS R n r p).set i0 (-1) := by simp only [RS]; rw [e3]
      rw [this, e2, show n - (p + 1) = n - p - 1 by omega]
      exact hpop.1
    · rw [e2, show n - (p + 1) = n - p - 1 by omega]
      exact top_heap (by omega) hh
    · intro q hq'
      by_cases c : q = p
      · subst c
        rw [e3]
        refine ⟨hi0, ?_, hnx⟩
        rw [e2, hpop.2]; simp [rem0]
      · exact hq q (by omega)
theorem SS_pick {n : Nat} {Q R : Nat → Int} {r : List Int} {ix : Nat → Nat} {B : Nat} (hB : ∀ y ∈ SS Q n ix 0, -(B : Int) ≤ y ∧ y ≤ B) (m : Nat) (hBm : B + m ≤ 4611686018427387904) (hix : ∀ p, p < m → nextR (RS R n r p) = ix p) (hixd : ∀ p, ix p = (AA R n (p + 1) (n - p - 1)).1.toNat) (p : Nat) :
    p ≤ m → (∀ y ∈ SS Q n ix p, -((B + p : Nat) : Int) ≤ y ∧ y ≤ (B + p : Nat)) ∧ pickN m (SS Q n ix 0) r = pickN (m - p) (SS Q n ix p) (RS R n r p) := by
  induction p with
  | zero => intro _; exact ⟨hB, rfl⟩
  | succ p ih =>
    intro hp
    obtain ⟨h1, h2⟩ := ih (by omega)
    have hb := rd_mem_bd (B := ((B + p : Nat) : Int)) (by omega) h1 (ix p : Int)
    have e : SS Q n ix (p + 1) = (SS Q n ix p).set (ix p) (rd (SS Q n ix p) (ix p : Int) + 1) := by
      rw [SS, sw64 (by omega) (by omega)]
    refine ⟨?_, ?_⟩
    · rw [e]
      exact set_bd (fun y hy => by have := h1 y hy; omega) (by omega)
    · rw [h2, show m - p = (m - (p + 1)) + 1 by omega, pickN, hix p (by omega), e, RS, ← hixd p]
theorem MS_eq {Q : Nat → Int} {a : Int} {B : Nat} (q : List Int) (ha : -1000000000000 ≤ a ∧ a ≤ 1000000000000) (hB : ∀ y ∈ q, -(B : Int) ≤ y ∧ y ≤ B) (hl : q.length * B ≤ 4611686018427387904) (hQ : ∀ i : Nat, i < q.length → Q i = rd q (i : Int)) (i : Nat) :
    i ≤ q.length → MS Q a i = a - (q.take i).sum := by
  induction i with
  | zero => intro _; simp [MS]
  | succ i ih =>
    intro hi
    have e : (q.take (i + 1)).sum = (q.take i).sum + rd q (i : Int) := by
      rw [List.take_add_one, List.getElem?_eq_getElem (show i < q.length by omega)]
      simp only [Option.toList_some, List.sum_append, List.sum_singleton]
      unfold rd
      rw [Int.toNat_natCast, List.getD_eq_getElem?_getD, List.getElem?_eq_getElem (show i < q.length by omega)]
      rfl
    have hb := sum_bd (B := B) (q.take (i + 1)) (fun x hx => hB x (List.mem_of_mem_take hx))
    have h3 : (q.take (i + 1)).length * B ≤ q.length * B := Nat.mul_le_mul_right _ (by simp; omega)
    rw [MS, ih (by omega), hQ i (by omega), e] at *
    rw [sw64 (by omega) (by omega)]
    omega
theorem rd_map (f : Int → Int) (l : List Int) (i : Nat) (hi : i < l.length) : rd (l.map f) (i : Int) = f (rd l (i : Int)) := by
  unfold rd
  rw [Int.toNat_natCast, List.getD_eq_getElem?_getD, List.getD_eq_getElem?_getD, List.getElem?_map, List.getElem?_eq_getElem hi]
  rfl
theorem rd_in {l : List Int} {i : Nat} (hi : i < l.length) : rd l (i : Int) ∈ l := by
  unfold rd
  rw [Int.toNat_natCast, List.getD_eq_getElem?_getD, List.getElem?_eq_getElem hi]
  exact List.getElem_mem hi
/-- All that the walk asks, at valid lengths and amount. -/
theorem share_facts {l : List Int} {a : Int} (h : AV l a) (Q R : Nat → Int) (hQ : Q = fun i : Nat => rd (fl l a) (i : Int)) (hR : R = fun i : Nat => rd (rs l a) (i : Int)) (mm : Nat) (hmm : mm = (a - (fl l a).sum).toNat) (ix : Nat → Nat) (hix : ix = fun p => (AA R l.length (p + 1) (l.length - p - 1)).1.toNat) :
    MS Q a l.length = (mm : Int) ∧ mm ≤ l.length ∧ (∀ p, p < mm → ix p < l.length ∧ (AA R l.length (p + 1) (l.length - p - 1)).1 = (ix p : Int)) ∧ SS Q l.length ix mm = pickN mm (fl l a) (rs l a) := by
  have hf : (fl l a).length = l.length := by simp [fl]
  have hrl : (rs l a).length = l.length := by simp [rs]
  have hmb := missing_bd h
  have h20 := h.1.2.2.1
  have hs := h.1.sum
  have hrr : ∀ i : Nat, i < l.length → rd (rs l a) (i : Int) = R i := fun i _ => by rw [hR]
  have hR0 : ∀ i, i < l.length → 0 ≤ R i := fun i hi => by
    rw [hR]
    show 0 ≤ rd (rs l a) (i : Int)
    unfold rs
    rw [rd_map _ _ _ hi]
    exact Int.emod_nonneg _ (by omega)
  have hall := (good_all R l.length (rs l a) hrl hrr hR0 mm (by omega)).2.2
  have h0 : SS Q l.length ix 0 = fl l a := by
    rw [SS, XS]
    apply List.ext_getElem
    · simp [hf]
    · intro i h1 h2
      rw [List.getElem_map, List.getElem_range, if_pos (by omega), hQ]
      show rd (fl l a) (i : Int) = _
      unfold rd
      rw [Int.toNat_natCast, List.getD_eq_getElem?_getD, List.getElem?_eq_getElem h2]
      rfl
  have hB := fl_bd h
  refine ⟨?_, by omega, fun p hp => ?_, ?_⟩
  · have := MS_eq (Q := Q) (a := a) (B := 100000000001) (fl l a) (by have := h.2; omega) hB (by rw [hf]; omega) (fun i _ => by rw [hQ]) l.length (by omega)
    rw [this, List.take_of_length_le (by omega)]
    omega
  · have := hall p hp
    rw [hix]
    exact ⟨this.1, this.2.1⟩
  · have := SS_pick (n := l.length) (Q := Q) (R := R) (r := rs l a) (ix := ix) (B := 100000000001) (by rw [h0]; exact hB) mm (by omega) (fun p hp => by rw [hix]; exact (hall p hp).2.2) (fun p => by rw [hix]) mm (Nat.le_refl _)
    rw [h0] at this
    rw [this.2, Nat.sub_self]
    rfl
theorem floorParts_eq (a b : Int) (hb : 0 < b) (ha : -4611686018427387904 ≤ a ∧ a ≤ 4611686018427387904) (hb' : b ≤ 4611686018427387904) : impl_floorParts.f a b = some (a / b, a % b) := by
  unfold impl_floorParts.f
  have hp := tparts a b hb
  have hd := ediv_bd hb ha
  have h2 := Int.emod_nonneg a (show b ≠ 0 by omega)
  have h3 := Int.emod_lt_of_pos a hb
  rw [if_neg (by omega)]
  by_cases h : Int.tmod a b < 0
  · obtain ⟨e1, e2⟩ := hp.1 h
    rw [if_pos h, sw64 (x := Int.tdiv a b) (by omega) (by omega), sw64 (by omega) (by omega), sw64 (by omega) (by omega), e1, e2]
  · obtain ⟨e1, e2⟩ := hp.2 h
    rw [if_neg h, sw64 (by omega) (by omega), e1, e2]
theorem share_parts {l : List Int} {a : Int} (h : AV l a) (i : Nat) (hi : i < l.length) : impl_floorParts.f (wrap64 (a * rd l (i : Int))) l.sum = some (rd (fl l a) (i : Int), rd (rs l a) (i : Int)) := by
  have hp := prod_bd h (rd_in hi)
  have hs := h.1.sum
  rw [sw64 (by omega) (by omega), floorParts_eq _ _ hs.1 (by omega) (by omega)]
  unfold fl rs
  rw [rd_map _ _ _ hi, rd_map _ _ _ hi]
end Go.Proofs.Ytmcfhmflncghiaa.Pure
namespace Go.Proofs.Ytmcfhmflncghiaa.HeapW
open Go.RowKit Go.Proofs.Ytmcfhmflncghiaa.Q Go.Proofs.YtmcfhmflncghiaaW.PrintWords Go.Proofs.YtmcfhmflncghiaaW.PrintLast Go.Proofs.YtmcfhmflncghiaaW.PrintMore
set_option linter.unusedVariables false
set_option linter.unusedSimpArgs false
set_option maxHeartbeats 2000000 in
theorem shareOf_no1 (k : Nat) (A0 : Option Addr) (c0 : Nat) (l0 : List Int) (a1 sum : Int) (w : World) (hr0 : Kd.C (Kd.int .i64) w A0 l0.length l0) (hc0 : l0.length ≤ c0)
    (hl : impl_lengthsSum.f k l0 = some (sum, false)) :
    Calls Try.prog 38 #[.slice A0 l0.length c0, .int .i64 a1] w fun e w' => ∃ v0_ : Value, e = .returned (.tuple #[v0_, .bool false]) ∧ Kd.R (Kd.int .i64) 3 w' w.heap.size (fun _ => True) v0_ ([] : List Int) ∧ Below w.heap.size w w' := by
  have HR0 := Aside0.mk hr0
  have HC0 := Aside0.mk hc0
  clear hr0 hc0
  have HB := Aside0.mk (Below.refl w.heap.size w)
  go_enter Try.func38, Try.ntmps38
  go_wp2_with (first
    | ((go_at_call 56); (with_reducible refine (impl_lengthsSum.calls k _ _ l0 sum _ _ qq58 HC0.out hl).mono ?_); rintro e w1 ⟨rfl, ⟨⟨d1, rfl⟩⟩⟩)
    | ((with_reducible refine gate_dst (N := 28) rfl ?_); refine Kd.R_lit (Kd.int .i64) _ 3 ?hg (N := 28) ?hd (xs := ([] : List Int)) (inner := []) (ok := fun _ => True) (okp := fun _ => True) ?hr ?hp (fun _ hk => hk) trivial (Below.refl _ _) (Nat.le_refl _) (by simp) ?_; (case hd => rfl); (case hg => rfl); (case hr => exact qq17); (case hp => exact (Reps.none _ _)); intro v192 w31 ho32 hb hg_ hnew_; clear hg_ hnew_; have n0_ := Aside0.mk (Kd.R_lower ho32 (below_size qq1)); have n1_ := Aside0.mk (below_step qq1 hb); clear HB; have HO193 := n0_; have HB := n1_; clear n0_ n1_; clear hb ho32))
  go_ret2
  exact ⟨_, qq12, qq2 HO193.out, qq1⟩
set_option maxHeartbeats 2000000 in
theorem shareOf_no2 (k : Nat) (A0 : Option Addr) (c0 : Nat) (l0 : List Int) (a1 sum : Int) (w : World) (hr0 : Kd.C (Kd.int .i64) w A0 l0.length l0) (hc0 : l0.length ≤ c0)
    (hl : impl_lengthsSum.f k l0 = some (sum, true)) (hw : impl_within.f a1 10000000 = some false) :
    Calls Try.prog 38 #[.slice A0 l0.length c0, .int .i64 a1] w fun e w' => ∃ v0_ : Value, e = .returned (.tuple #[v0_, .bool false]) ∧ Kd.R (Kd.int .i64) 3 w' w.heap.size (fun _ => True) v0_ ([] : List Int) ∧ Below w.heap.size w w' := by
  have HR0 := Aside0.mk hr0
  have HC0 := Aside0.mk hc0
  clear hr0 hc0
  have HB := Aside0.mk (Below.refl w.heap.size w)
  go_enter Try.func38, Try.ntmps38
  go_wp2_with (first
    | ((go_at_call 56); (with_reducible refine (impl_lengthsSum.calls k _ _ l0 sum _ _ qq58 HC0.out hl).mono ?_); rintro e w1 ⟨rfl, ⟨⟨d1, rfl⟩⟩⟩)
    | ((go_at_call 37); (with_reducible refine (impl_within.calls _ _ _ _ hw).mono ?_); rintro e w1 ⟨rfl, ⟨⟨d2, rfl⟩⟩⟩)
    | ((with_reducible refine gate_dst (N := 28) rfl ?_); refine Kd.R_lit (Kd.int .i64) _ 3 ?hg (N := 28) ?hd (xs := ([] : List Int)) (inner := []) (ok := fun _ => True) (okp := fun _ => True) ?hr ?hp (fun _ hk => hk) trivial (Below.refl _ _) (Nat.le_refl _) (by simp) ?_; (case hd => rfl); (case hg => rfl); (case hr => exact qq17); (case hp => exact (Reps.none _ _)); intro v192 w31 ho32 hb hg_ hnew_; clear hg_ hnew_; have n0_ := Aside0.mk (Kd.R_lower ho32 (below_size qq1)); have n1_ := Aside0.mk (below_step qq1 hb); clear HB; have HO193 := n0_; have HB := n1_; clear n0_ n1_; clear hb ho32))
  go_ret2
  exact ⟨_, qq12, qq2 HO193.out, qq1⟩
theorem shareOf_all (A0 : Option Addr) (c0 : Nat) (l0 : List Int) (a1 : Int) (w : World) (hr0 : Kd.C (Kd.int .i64) w A0 l0.length l0) (hc0 : l0.length ≤ c0) :
    Calls Try.prog 38 #[.slice A0 l0.length c0, .int .i64 a1] w fun e w' => ∃ v0_ : Value, e = .returned (.tuple #[v0_, .bool (Pure.shR l0 a1).2]) ∧ Kd.R (Kd.int .i64) 3 w' w.heap.size (fun _ => True) v0_ (Pure.shR l0 a1).1 ∧ Below w.heap.size w w' := by
  have hl := Pure.lengthsSum_eq 100 l0 (by omega)
  have hwi := Pure.swithin_eq a1 10000000 (by omega) (by omega)
  by_cases h : Pure.AV l0 a1
  · have e : Pure.shR l0 a1 = (Pure.pickN (a1 - (Pure.fl l0 a1).sum).toNat (Pure.fl l0 a1) (Pure.rs l0 a1), true) := by unfold Pure.shR; rw [if_pos h]
    rw [if_pos h.1] at hl
    rw [show decide (-10000000 ≤ a1 ∧ a1 ≤ 10000000) = true from decide_eq_true h.2] at hwi
    obtain ⟨f1, f2, f3, f4⟩ := Pure.share_facts h (fun i : Nat => rd (Pure.fl l0 a1) (i : Int)) (fun i : Nat => rd (Pure.rs l0 a1) (i : Int)) rfl rfl _ rfl _ rfl
    have := shareOf_walk 100 A0 c0 l0 a1 l0.sum (fun i : Nat => rd (Pure.fl l0 a1) (i : Int)) (fun i : Nat => rd (Pure.rs l0 a1) (i : Int)) w hr0 hc0 hl hwi ⟨h.1.2.1, h.1.2.2.1⟩ (fun i hi => Pure.share_parts h i hi) _ _ f1 f2 f3
    refine this.mono ?_
    rintro e' w' ⟨v, rfl, ho, hb⟩
    rw [e]
    refine ⟨v, rfl, ?_, hb⟩
    rw [f4] at ho
    refine Kd.R_of_own (α := Int) (by rw [Pure.pickN_length, show (Pure.fl l0 a1).length = l0.length by simp [Pure.fl]]; exact ho) (fun _ _ => trivial)
  · have e : Pure.shR l0 a1 = ([], false) := by unfold Pure.shR; rw [if_neg h]
    rw [e]
    by_cases hL : Pure.LV l0
    · rw [if_pos hL] at hl
      refine shareOf_no2 100 A0 c0 l0 a1 _ w hr0 hc0 hl ?_
      rw [hwi, decide_eq_false (fun q => h ⟨hL, q⟩)]
    · rw [if_neg hL] at hl
      exact shareOf_no1 100 A0 c0 l0 a1 _ w hr0 hc0 hl
end Go.Proofs.Ytmcfhmflncghiaa.HeapW
namespace Go.Proofs.Ytmcfhmflncghiaa.Q
open Go.RowKit Go.Proofs.YtmcfhmflncghiaaW.PrintWords Go.Proofs.YtmcfhmflncghiaaW.PrintLast Go.Proofs.YtmcfhmflncghiaaW.PrintMore
attribute [local go_sem] max2_int min2_int max_two min_two max_three min_three max_four min_four
set_option linter.unusedVariables false
set_option linter.unusedSimpArgs false

/-! ### impl_ShareOf: function 38 -/
def impl_ShareOf.f (l0 : List Int) (a1 : Int) : Option (List Int × Bool) := some (Go.Proofs.Ytmcfhmflncghiaa.Pure.shR l0 a1)
theorem impl_ShareOf.calls (A0 : Option Addr) (c0 : Nat) (l0 : List Int) (a1 : Int) (r1 : List Int) (r2 : Bool) (w : World) (hr0 : Kd.C (Kd.int .i64) w A0 l0.length l0) (hc0 : l0.length ≤ c0) (h : impl_ShareOf.f l0 a1 = some (r1, r2)) :
    Calls Try.prog 38 #[.slice A0 l0.length c0, .int .i64 a1] w fun e w' => ∃ v0_ : Value, e = .returned (.tuple #[v0_, .bool r2]) ∧ Kd.R (Kd.int .i64) 3 w' w.heap.size (fun _ => True) v0_ r1 ∧ Below w.heap.size w w' := by
  obtain ⟨rfl, rfl⟩ : (Go.Proofs.Ytmcfhmflncghiaa.Pure.shR l0 a1).1 = r1 ∧ (Go.Proofs.Ytmcfhmflncghiaa.Pure.shR l0 a1).2 = r2 := by
    have := Option.some.inj h
    rw [this]; exact ⟨rfl, rfl⟩
  exact Go.Proofs.Ytmcfhmflncghiaa.HeapW.shareOf_all A0 c0 l0 a1 w hr0 hc0

end Go.Proofs.Ytmcfhmflncghiaa.Q
namespace Go.Proofs.Ytmcfhmflncghiaa.Q
open Go.RowKit Go.Proofs.YtmcfhmflncghiaaW.PrintWords Go.Proofs.YtmcfhmflncghiaaW.PrintLast Go.Proofs.YtmcfhmflncghiaaW.PrintMore
attribute [local go_sem] max2_int min2_int max_two min_two max_three min_three max_four min_four
set_option linter.unusedVariables false
set_option linter.unusedSimpArgs false

/-! ### impl_ShareRises: function 20 -/
mutual
def impl_ShareRises.l0 : Nat → List Int → List Int → Int → List Int → Int → Int → Option (List Int × Bool)
  | 0, _, _, _, _, _, _ => none
  | k + 1, x0, x1, x6, x19, x20, x21 => if x21 < x20 then (if 0 ≤ x21 then (if x21 < (x19.length : Int) then ((impl_within.f (rd x19 x21) 100000).bind fun t622 => (if t622 = true then (impl_ShareRises.l0 k x0 x1 (wrap64 (x6 + (rd x19 x21))) x19 x20 (wrap64 (x21 + 1))) else (some ((([] : List Int)), false)))) else (none)) else (none)) else ((impl_ShareOf.f x0 (wrap64 (-x6))).bind fun bt626 => (if bt626.2 = true then (impl_ShareRises.l1 k bt626.1 x1 (x1.length : Int) 0) else (some ((([] : List Int)), false))))
def impl_ShareRises.l1 : Nat → List Int → List Int → Int → Int → Option (List Int × Bool)
  | 0, _, _, _, _ => none
  | k + 1, x9, x43, x44, x45 => if x45 < x44 then (if 0 ≤ x45 then (if x45 < (x43.length : Int) then (if x45 < (x9.length : Int) then (impl_ShareRises.l1 k (x9.set (x45 : Int).toNat (wrap64 ((rd x9 x45) + (rd x43 x45)))) x43 x44 (wrap64 (x45 + 1))) else (none)) else (none)) else (none)) else (some (x9, true))
end
def impl_ShareRises.f (k : Nat) (l0 : List Int) (l1 : List Int) : Option (List Int × Bool) := if (l1.length : Int) = (l0.length : Int) then (impl_ShareRises.l0 k l0 l1 0 l1 (l1.length : Int) 0) else (some ((([] : List Int)), false))
set_option maxHeartbeats 8000000 in
set_option maxRecDepth 100000 in
theorem impl_ShareRises.calls (k : Nat) (A0 : Option Addr) (c0 : Nat) (l0 : List Int) (A1 : Option Addr) (c1 : Nat) (l1 : List Int) (r1 : List Int) (r2 : Bool) (w : World) (hr0 : Kd.C (Kd.int .i64) w A0 l0.length l0) (hc0 : l0.length ≤ c0) (hr1 : Kd.C (Kd.int .i64) w A1 l1.length l1) (hc1 : l1.length ≤ c1) (h : impl_ShareRises.f k l0 l1 = some (r1, r2)) :
    Calls Try.prog 20 #[.slice A0 l0.length c0, .slice A1 l1.length c1] w fun e w' => ∃ v0_ : Value, e = .returned (.tuple #[v0_, .bool r2]) ∧ Kd.R (Kd.int .i64) 3 w' w.heap.size (fun _ => True) v0_ r1 ∧ Below w.heap.size w w' := by
  have HR0 := Aside0.mk hr0
  have HC0 := Aside0.mk hc0
  clear hr0 hc0
  have HR1 := Aside0.mk hr1
  have HC1 := Aside0.mk hc1
  clear hr1 hc1
  have HB := Aside0.mk (Below.refl w.heap.size w)
  have H : (if (l1.length : Int) = (l0.length : Int) then (impl_ShareRises.l0 k l0 l1 0 l1 (l1.length : Int) 0) else (some ((([] : List Int)), false))) = some (r1, r2) := h
  clear h
  by_cases c3 : (l1.length : Int) = (l0.length : Int)
  · rw [if_pos c3] at H
    have c3b0 : ((l1.length : Int) == (l0.length : Int)) = true := beq_iff_eq.mpr c3
    have c3b1 : ((l1.length : Int) != (l0.length : Int)) = false := bne_eq_false_iff_eq.mpr c3
    have c3b2 : (l1.length == l0.length) = true := by first | simpa using c3 | (simp at c3 ⊢; omega)
    clear c3
    have H' := Aside0.mk H
    clear H
    go_enter Try.func20, Try.ntmps20
    go_wp2
    go_loopg [6, 21] k (fun kq v6 v21 w' => ∃ (x6_1 : Int) (x21_1 : Int), v6 = .int .i64 x6_1 ∧ v21 = .int .i64 x21_1 ∧ Aside0 (impl_ShareRises.l0 kq l0 l1 x6_1 l1 (l1.length : Int) x21_1 = some (r1, r2)) ∧ Aside0 (kq ≤ k) ∧ Aside0 (Below w.heap.size w w'))
    case atStart => exact ⟨(0), (0), qq9, qq9, H', ⟨Nat.le_refl _⟩, ⟨qq1⟩⟩
    case round =>
      clear H'
      try clear c1
      try clear c2
      try clear p2
      try clear c3
      try clear c3b0
      try clear c3b1
      try clear c3b2
      obtain ⟨x6_1, x21_1, rfl, rfl, HA, HK1, HB⟩ := hrel
      cases gk with
      | zero => exact absurd HA.out (by simp [impl_ShareRises.l0])
      | succ k1 =>
        have H := HA.out
        clear HA
        simp only [impl_ShareRises.l0] at H
        by_cases c4 : x21_1 < (l1.length : Int)
        · rw [if_pos c4] at H
          have c4b0 : decide (x21_1 < (l1.length : Int)) = true := decide_eq_true c4
          clear c4
          by_cases c5 : 0 ≤ x21_1
          · rw [if_pos c5] at H
            have c5b0 : decide (0 ≤ x21_1) = true := decide_eq_true c5
            clear c5
            by_cases c6 : x21_1 < (l1.length : Int)
            · rw [if_pos c6] at H
              have c6b0 : decide (x21_1 < (l1.length : Int)) = true := decide_eq_true c6
              clear c6
              replace H := Option.bind_eq_some_iff.mp H
              obtain ⟨t622, A70, H⟩ := H
              replace H : (if t622 = true then (impl_ShareRises.l0 k1 l0 l1 (wrap64 (x6_1 + (rd l1 x21_1))) l1 (l1.length : Int) (wrap64 (x21_1 + 1))) else (some ((([] : List Int)), false))) = some (r1, r2) := H
              have A7 := Aside0.mk A70
              clear A70
              by_cases c8 : t622 = true
              · subst c8
                have H1 : (impl_ShareRises.l0 k1 l0 l1 (wrap64 (x6_1 + (rd l1 x21_1))) l1 (l1.length : Int) (wrap64 (x21_1 + 1))) = some (r1, r2) := by rw [if_pos rfl] at H; exact H
                clear H
                have H := H1
                clear H1
                have H' := Aside0.mk H
                clear H
                have p621 : 0 ≤ (x21_1 : Int) := of_decide_eq_true qq3
                have q621 : x21_1 < (l1.length : Int) := of_decide_eq_true qq3
                obtain ⟨ad621, e621, hx621_0⟩ := Kd.at_int HR1.out x21_1 p621 q621
                cases e621
                replace hx621_0 := (HB.out.cell (World.block_lt_of_cell? w _ hx621_0)).trans hx621_0
                replace p621 := eq_true p621
                replace q621 := eq_true q621
                go_wp2_with (first | ((with_reducible refine gate_callee (f := 37) rfl ?_); refine goesL_ (some 26) rfl rfl Try.func37 (by kernel_rfl) rfl #[.int .i64 (rd l1 x21_1), .int .i64 100000] rfl qq5 ?_; (with_reducible refine (impl_within.calls (rd l1 x21_1) 100000 true _ A7.out).mono ?_); rintro e w' ⟨rfl, ⟨nd, rfl⟩⟩; refine ⟨_, rfl, ?_⟩))
                go_roundg k1
                case measure => have := HK1.out; omega
                case rel => exact ⟨(wrap64 (x6_1 + (rd l1 x21_1))), (wrap64 (x21_1 + 1)), qq9, qq9, H', ⟨by have := HK1.out; omega⟩, ⟨qq1⟩⟩
              · replace c8 := Bool.eq_false_iff.mpr c8
                subst c8
                have H1 : (some ((([] : List Int)), false)) = some (r1, r2) := by rw [if_neg (show ¬ (false = true) by decide)] at H; exact H
                clear H
                have H := H1
                clear H1
                obtain ⟨y623, hy623⟩ : ∃ y_ : List Int, y_ = (([] : List Int)) := ⟨_, rfl⟩
                replace H : (some (y623, false)) = some (r1, r2) := by first | (rw [hy623]; with_reducible exact H) | (have H2_ := (Option.bind_some _ _).symm.trans H; rw [hy623]; with_reducible exact H2_) | (have H2_ := (Option.bind_some _ _).symm.trans H; with_reducible exact H2_) | with_reducible exact H | (rw [hy623]; exact H) | exact H
                have Ny623 := Aside0.mk hy623
                clear hy623
                simp only [Option.some.injEq, Prod.mk.injEq] at H
                obtain ⟨rfl, rfl⟩ := H
                have p621 : 0 ≤ (x21_1 : Int) := of_decide_eq_true qq3
                have q621 : x21_1 < (l1.length : Int) := of_decide_eq_true qq3
                obtain ⟨ad621, e621, hx621_0⟩ := Kd.at_int HR1.out x21_1 p621 q621
                cases e621
                replace hx621_0 := (HB.out.cell (World.block_lt_of_cell? w _ hx621_0)).trans hx621_0
                replace p621 := eq_true p621
                replace q621 := eq_true q621
                go_wp2_with (first | ((with_reducible refine gate_callee (f := 37) rfl ?_); refine goesL_ (some 26) rfl rfl Try.func37 (by kernel_rfl) rfl #[.int .i64 (rd l1 x21_1), .int .i64 100000] rfl qq5 ?_; (with_reducible refine (impl_within.calls (rd l1 x21_1) 100000 false _ A7.out).mono ?_); rintro e w' ⟨rfl, ⟨nd, rfl⟩⟩; refine ⟨_, rfl, ?_⟩) | ((with_reducible refine gate_dst (N := 28) rfl ?_); refine Kd.R_lit (Kd.int .i64) _ 3 ?hg (N := 28) ?hd (xs := ([] : List Int)) (inner := []) (ok := fun _ => True) (okp := fun _ => True) ?hr ?hp (fun _ hk => hk) trivial (Below.refl _ _) (Nat.le_refl _) (by simp) ?_; (case hd => rfl); (case hg => rfl); (case hr => exact qq17); (case hp => exact (Reps.none _ _)); intro v624 w9 ho10 hb hg_ hnew_; clear hg_ hnew_; (first | rw [← Ny623.out] at ho10 | (simp only [Int.reduceToNat] at ho10; rw [← Ny623.out] at ho10)); have n0_ := Aside0.mk (Kd.R_lower ho10 (below_size qq1)); have n1_ := Aside0.mk (below_step qq1 hb); clear HB; have HO625 := n0_; have HB := n1_; clear n0_ n1_; clear hb ho10))
                go_ret2
                exact ⟨_, qq12, qq2 HO625.out, qq1⟩
            · rw [if_neg c6] at H
              exact absurd H (by simp)
          · rw [if_neg c5] at H
            exact absurd H (by simp)
        · rw [if_neg c4] at H
          have c4b0 : decide (x21_1 < (l1.length : Int)) = false := decide_eq_false c4
          clear c4
          replace H := Option.bind_eq_some_iff.mp H
          obtain ⟨⟨t626, t627⟩, A110, H⟩ := H
          replace H : (if t627 = true then (impl_ShareRises.l1 k1 t626 l1 (l1.length : Int) 0) else (some ((([] : List Int)), false))) = some (r1, r2) := H
          have A11 := Aside0.mk A110
          clear A110
          by_cases c12 : t627 = true
          · subst c12
            have H1 : (impl_ShareRises.l1 k1 t626 l1 (l1.length : Int) 0) = some (r1, r2) := by rw [if_pos rfl] at H; exact H
            clear H
            have H := H1
            clear H1
            have H' := Aside0.mk H
            clear H
            go_wp2_with (first | ((with_reducible refine gate_callee (f := 38) rfl ?_); refine goesL_ (some 37) rfl rfl Try.func38 (by kernel_rfl) rfl #[.slice A0 l0.length c0, .int .i64 (wrap64 (-x6_1))] rfl qq5 ?_; (with_reducible refine (impl_ShareOf.calls _ _ l0 (wrap64 (-x6_1)) t626 true _ ?side1 ?side2 A11.out).mono ?_); (case side1 => exact qq13 HR0.out HB.out); (case side2 => exact HC0.out); rintro e w13 ⟨v628, rfl, ho0, hb⟩; refine ⟨_, rfl, ?_⟩; have n0_ := Aside0.mk (Kd.R_lower ho0 (below_size qq1)); have n1_ := Aside0.mk (below_step qq1 hb); clear HB; have HO629 := n0_; have HB := n1_; clear n0_ n1_; (try clear hb); (try clear hb2); (try clear hk); (try clear hi); (try clear ho0)))
            go_loopg [45] k1 (fun kq v45 w' => ∃ (x9_2 : List Int) (x45_2 : Int), v45 = .int .i64 x45_2 ∧ Aside0 (impl_ShareRises.l1 kq x9_2 l1 (l1.length : Int) x45_2 = some (r1, r2)) ∧ Aside0 (kq ≤ k1) ∧ Aside0 (Kd.R (Kd.int .i64) 3 w' w.heap.size (fun _ => True) v628 x9_2) ∧ Aside0 (Below w.heap.size w w'))
            case atStart => exact ⟨(t626), (0), qq9, H', ⟨Nat.le_refl _⟩, ⟨qq2 HO629.out⟩, ⟨qq1⟩⟩
            case round =>
              clear H'
              try clear c1
              try clear c2
              try clear p2
              try clear c3
              try clear c3b0
              try clear c3b1
              try clear c3b2
              try clear c4
              try clear c4b0
              try clear c5
              try clear c5b0
              try clear c6
              try clear c6b0
              try clear p6
              try clear q6
              try clear hx6
              try clear c8
              try clear c12
              try clear hx621_0
              try clear p2
              try clear p621
              try clear q621
              obtain ⟨x9_2, x45_2, rfl, HA, HK2, HO_9, HB⟩ := hrel
              cases gk with
              | zero => exact absurd HA.out (by simp [impl_ShareRises.l1])
              | succ k2 =>
                have H := HA.out
                clear HA
                simp only [impl_ShareRises.l1] at H
                by_cases c14 : x45_2 < (l1.length : Int)
                · rw [if_pos c14] at H
                  have c14b0 : decide (x45_2 < (l1.length : Int)) = true := decide_eq_true c14
                  clear c14
                  by_cases c15 : 0 ≤ x45_2
                  · rw [if_pos c15] at H
                    have c15b0 : decide (0 ≤ x45_2) = true := decide_eq_true c15
                    clear c15
                    by_cases c16 : x45_2 < (l1.length : Int)
                    · rw [if_pos c16] at H
                      have c16b0 : decide (x45_2 < (l1.length : Int)) = true := decide_eq_true c16
                      clear c16
                      by_cases c17 : x45_2 < (x9_2.length : Int)
                      · rw [if_pos c17] at H
                        have c17b0 : decide (x45_2 < (x9_2.length : Int)) = true := decide_eq_true c17
                        clear c17
                        obtain ⟨y635, hy635⟩ : ∃ y_ : List Int, y_ = (x9_2.set (x45_2 : Int).toNat (wrap64 ((rd x9_2 x45_2) + (rd l1 x45_2)))) := ⟨_, rfl⟩
                        replace H : (impl_ShareRises.l1 k2 y635 l1 (l1.length : Int) (wrap64 (x45_2 + 1))) = some (r1, r2) := by first | (rw [hy635]; with_reducible exact H) | (have H2_ := (Option.bind_some _ _).symm.trans H; rw [hy635]; with_reducible exact H2_) | (have H2_ := (Option.bind_some _ _).symm.trans H; with_reducible exact H2_) | with_reducible exact H | (rw [hy635]; exact H) | exact H
                        have Ny635 := Aside0.mk hy635
                        clear hy635
                        have H' := Aside0.mk H
                        clear H
                        have p633 : 0 ≤ (x45_2 : Int) := of_decide_eq_true qq3
                        have q633 : x45_2 < (l1.length : Int) := of_decide_eq_true qq3
                        obtain ⟨ad633, e633, hx633_0⟩ := Kd.at_int HR1.out x45_2 p633 q633
                        cases e633
                        replace hx633_0 := (HB.out.cell (World.block_lt_of_cell? w _ hx633_0)).trans hx633_0
                        replace p633 := eq_true p633
                        replace q633 := eq_true q633
                        obtain ⟨Ao19, co19, eo19⟩ := Kd.R_slice HO_9.out
                        subst eo19
                        have p634 : 0 ≤ (x45_2 : Int) := of_decide_eq_true qq3
                        have q634 : x45_2 < (x9_2.length : Int) := of_decide_eq_true qq3
                        obtain ⟨ad634, e634, hx634_0⟩ := Kd.at_int (Kd.R_reads' HO_9.out).2.2 x45_2 p634 q634
                        cases e634
                        replace p634 := eq_true p634
                        replace q634 := eq_true q634
                        have p18 : 0 ≤ (x45_2 : Int) := of_decide_eq_true qq3
                        have q18 : (x45_2 : Int) < ((x9_2.length : Int) : Int) := of_decide_eq_true qq3
                        obtain ⟨go18, co18, eo18, gb18, gl18, cl18, HG18⟩ := Kd.R_form HO_9.out (by omega)
                        (first | cases eo18 | (injection eo18 with ea_ en_ ec_; (first | subst ea_ | (injection ea_ with ea_; subst ea_)); subst ec_; clear en_))
                        have GB18 := Aside0.mk gb18
                        have GG18 := Aside0.mk HG18
                        clear gb18 gl18 HG18
                        (first | simp only [add_plain] at hx634_0 | skip)
                        obtain ⟨hx18_0, hf18_0⟩ := Kd.R_celln 0 HO_9.out (x45_2 : Int) p18 q18
                        replace p18 := eq_true p18
                        replace q18 := eq_true q18
                        have HP20 := Kd.R_putg HO_9.out (x45_2 : Int) (wrap64 ((rd x9_2 x45_2) + (rd l1 x45_2)))
                        go_wp2_with (first | ((with_reducible refine gate_store (t := 3) (p := 56) rfl ?_); refine store_event (t := 3) (p := 56) (v := ?vo_w21) (w1 := (wr.setCell ⟨go18, (x45_2 : Int).toNat, none⟩ (.int .i64 (wrap64 ((rd x9_2 x45_2) + (rd l1 x45_2)))))) ?hg ?ho ?hn ?hr ?_; (case ho => rfl); (case hg => rfl); (case hn => rfl); (case hr => exact qq17); intro w21 hw; have hg : wr.grownBy w21 (some go18) := (by rw [hw]; exact HP20.2); have hp_ : Kd.R (Kd.int .i64) 3 w21 w.heap.size (fun _ => True) (.slice (some ⟨go18, 0, none⟩) x9_2.length co19) y635 := (by rw [hw, Ny635.out]; exact HP20.1); clear HP20; have n0_ := Aside0.mk (hp_); have n1_ := Aside0.mk ((qq67 : Below w.heap.size w w21)); clear HO_9; clear HB; have HO_9 := n0_; have HB := n1_; clear n0_ n1_; clear hg hw hp_))
                        go_roundg k2
                        case measure => have := HK1.out; have := HK2.out; omega
                        case rel => exact ⟨(y635), (wrap64 (x45_2 + 1)), qq9, H', ⟨qq68 HK1.out HK2.out⟩, ⟨qq2 HO_9.out⟩, ⟨qq1⟩⟩
                      · rw [if_neg c17] at H
                        exact absurd H (by simp)
                    · rw [if_neg c16] at H
                      exact absurd H (by simp)
                  · rw [if_neg c15] at H
                    exact absurd H (by simp)
                · rw [if_neg c14] at H
                  have c14b0 : decide (x45_2 < (l1.length : Int)) = false := decide_eq_false c14
                  clear c14
                  simp only [Option.some.injEq, Prod.mk.injEq] at H
                  obtain ⟨rfl, rfl⟩ := H
                  go_wp2
                  go_ret2
                  exact ⟨_, qq12, qq2 HO_9.out, qq1⟩
          · replace c12 := Bool.eq_false_iff.mpr c12
            subst c12
            have H1 : (some ((([] : List Int)), false)) = some (r1, r2) := by rw [if_neg (show ¬ (false = true) by decide)] at H; exact H
            clear H
            have H := H1
            clear H1
            obtain ⟨y630, hy630⟩ : ∃ y_ : List Int, y_ = (([] : List Int)) := ⟨_, rfl⟩
            replace H : (some (y630, false)) = some (r1, r2) := by first | (rw [hy630]; with_reducible exact H) | (have H2_ := (Option.bind_some _ _).symm.trans H; rw [hy630]; with_reducible exact H2_) | (have H2_ := (Option.bind_some _ _).symm.trans H; with_reducible exact H2_) | with_reducible exact H | (rw [hy630]; exact H) | exact H
            have Ny630 := Aside0.mk hy630
            clear hy630
            simp only [Option.some.injEq, Prod.mk.injEq] at H
            obtain ⟨rfl, rfl⟩ := H
            go_wp2_with (first | ((with_reducible refine gate_callee (f := 38) rfl ?_); refine goesL_ (some 37) rfl rfl Try.func38 (by kernel_rfl) rfl #[.slice A0 l0.length c0, .int .i64 (wrap64 (-x6_1))] rfl qq5 ?_; (with_reducible refine (impl_ShareOf.calls _ _ l0 (wrap64 (-x6_1)) t626 false _ ?side1 ?side2 A11.out).mono ?_); (case side1 => exact qq13 HR0.out HB.out); (case side2 => exact HC0.out); rintro e w22 ⟨v628, rfl, ho0, hb⟩; refine ⟨_, rfl, ?_⟩; have n0_ := Aside0.mk (Kd.R_lower ho0 (below_size qq1)); have n1_ := Aside0.mk (below_step qq1 hb); clear HB; have HO629 := n0_; have HB := n1_; clear n0_ n1_; (try clear hb); (try clear hb2); (try clear hk); (try clear hi); (try clear ho0)) | ((with_reducible refine gate_dst (N := 42) rfl ?_); refine Kd.R_lit (Kd.int .i64) _ 3 ?hg (N := 42) ?hd (xs := ([] : List Int)) (inner := []) (ok := fun _ => True) (okp := fun _ => True) ?hr ?hp (fun _ hk => hk) trivial (Below.refl _ _) (Nat.le_refl _) (by simp) ?_; (case hd => rfl); (case hg => rfl); (case hr => exact qq17); (case hp => exact (Reps.none _ _)); intro v631 w23 ho24 hb hg_ hnew_; clear hg_ hnew_; (first | rw [← Ny630.out] at ho24 | (simp only [Int.reduceToNat] at ho24; rw [← Ny630.out] at ho24)); have n0_ := Aside0.mk (Kd.R_elder' (qq2 HO629.out) (Kd.R_base ho24) hb); have n1_ := Aside0.mk (Kd.R_lower (Kd.R_new' ho24 (Kd.R_lt (qq2 HO629.out))) (below_size qq1)); have n2_ := Aside0.mk (below_step qq1 hb); clear HO629; clear HB; have HO629 := n0_; have HO632 := n1_; have HB := n2_; clear n0_ n1_ n2_; clear hb ho24))
            go_ret2
            exact ⟨_, qq12, qq21 HO632.out, qq1⟩
  · rw [if_neg c3] at H
    have c3b0 : ((l1.length : Int) == (l0.length : Int)) = false := beq_eq_false_iff_ne.mpr c3
    have c3b1 : ((l1.length : Int) != (l0.length : Int)) = true := bne_iff_ne.mpr c3
    have c3b2 : (l1.length == l0.length) = false := by first | simpa using c3 | (simp at c3 ⊢; omega)
    obtain ⟨y618, hy618⟩ : ∃ y_ : List Int, y_ = (([] : List Int)) := ⟨_, rfl⟩
    replace H : (some (y618, false)) = some (r1, r2) := by first | (rw [hy618]; with_reducible exact H) | (have H2_ := (Option.bind_some _ _).symm.trans H; rw [hy618]; with_reducible exact H2_) | (have H2_ := (Option.bind_some _ _).symm.trans H; with_reducible exact H2_) | with_reducible exact H | (rw [hy618]; exact H) | exact H
    have Ny618 := Aside0.mk hy618
    clear hy618
    simp only [Option.some.injEq, Prod.mk.injEq] at H
    obtain ⟨rfl, rfl⟩ := H
    go_enter Try.func20, Try.ntmps20
    go_wp2_with (first | ((with_reducible refine gate_dst (N := 18) rfl ?_); refine Kd.R_lit (Kd.int .i64) _ 3 ?hg (N := 18) ?hd (xs := ([] : List Int)) (inner := []) (ok := fun _ => True) (okp := fun _ => True) ?hr ?hp (fun _ hk => hk) trivial (Below.refl _ _) (Nat.le_refl _) (by simp) ?_; (case hd => rfl); (case hg => rfl); (case hr => exact qq17); (case hp => exact (Reps.none _ _)); intro v619 w25 ho26 hb hg_ hnew_; clear hg_ hnew_; (first | rw [← Ny618.out] at ho26 | (simp only [Int.reduceToNat] at ho26; rw [← Ny618.out] at ho26)); have n0_ := Aside0.mk (Kd.R_lower ho26 (below_size qq1)); have n1_ := Aside0.mk (below_step qq1 hb); clear HB; have HO620 := n0_; have HB := n1_; clear n0_ n1_; clear hb ho26))
    go_ret2
    exact ⟨_, qq12, qq2 HO620.out, qq1⟩

end Go.Proofs.Ytmcfhmflncghiaa.Q
namespace Go.Proofs.Ytmcfhmflncghiaa.Q
open Go.RowKit Go.Proofs.YtmcfhmflncghiaaW.PrintWords Go.Proofs.YtmcfhmflncghiaaW.PrintLast Go.Proofs.YtmcfhmflncghiaaW.PrintMore
attribute [local go_sem] max2_int min2_int max_two min_two max_three min_three max_four min_four
set_option linter.unusedVariables false
set_option linter.unusedSimpArgs false

/-! ### spec_ShareRises: function 21 -/
mutual
def spec_ShareRises.j0 : Nat → List Int → List Int → List Int → Bool → Option (List Int × Bool)
  | 0, _, _, _, _ => none
  | k + 1, x0, x1, x6, x21 => if x21 = true then (some (x6, false)) else (spec_ShareRises.l0 k x0 x1 x6 0)
def spec_ShareRises.l0 : Nat → List Int → List Int → List Int → Int → Option (List Int × Bool)
  | 0, _, _, _, _ => none
  | k + 1, x0, x1, x6, x7 => if x7 < (x1.length : Int) then (if 0 ≤ x7 then ((spec_l6In.f (rd x1 x7) (-100000) 100000).bind fun t672 => (if t672 = true then (spec_ShareRises.l0 k x0 x1 x6 (wrap64 (x7 + 1))) else (some ((([] : List Int)), false)))) else (none)) else ((spec_l14Sum.f k x1).bind fun t676 => ((spec_ShareOf.f k x0 (wrap64 (-t676))).bind fun bt677 => (spec_ShareRises.l1 k x1 x6 bt677.1 0)))
def spec_ShareRises.l1 : Nat → List Int → List Int → List Int → Int → Option (List Int × Bool)
  | 0, _, _, _, _ => none
  | k + 1, x1, x6, x8, x10 => if x10 < (x1.length : Int) then (if 0 ≤ x10 then (if x10 < (x8.length : Int) then (if x6.length < 17592186044416 then (spec_ShareRises.l1 k x1 (x6 ++ [wrap64 ((rd x1 x10) + (rd x8 x10))]) x8 (wrap64 (x10 + 1))) else (none)) else (none)) else (none)) else (some (x6, true))
end
def spec_ShareRises.f (k : Nat) (l0 : List Int) (l1 : List Int) : Option (List Int × Bool) := (some (([] : List Int) : List Int)).bind fun y667 => ((spec_l14Lengths.f k l0).bind fun t670 => (if t670 = true then (spec_ShareRises.j0 k l0 l1 y667 ((l1.length : Int) != (l0.length : Int))) else (spec_ShareRises.j0 k l0 l1 y667 true)))
def spec_ShareRises.T13 : Bool × List (List Nat × List Nat) := (true, [([], []), ([], []), ([], []), ([1, 2], [1, 2]), ([3], [3]), ([], []), ([], []), ([5, 6], [5, 6]), ([7], [7]), ([4, 8], [4, 8]), ([9], [9]), ([0, 10], [0, 10]), ([11, 11, 0, 1, 2, 3, 4, 5, 6, 7, 8, 9, 10, 11], [0, 11])])
def spec_ShareRises.B13 : List Nat := [0, 0, 0, 6, 14, 0, 0, 96, 224, 510, 1022, 2047, 4095]
theorem spec_ShareRises.tab13 : rtab .any (opsOf Try.f21 13) = spec_ShareRises.T13 := by kernel_rfl
theorem spec_ShareRises.bits13 : waitsOk spec_ShareRises.T13.2 spec_ShareRises.B13 = true := by kernel_rfl
set_option maxHeartbeats 8000000 in
set_option maxRecDepth 100000 in
theorem spec_ShareRises.calls (k : Nat) (A0 : Option Addr) (c0 : Nat) (l0 : List Int) (A1 : Option Addr) (c1 : Nat) (l1 : List Int) (r1 : List Int) (r2 : Bool) (w : World) (hr0 : Kd.C (Kd.int .i64) w A0 l0.length l0) (hc0 : l0.length ≤ c0) (hr1 : Kd.C (Kd.int .i64) w A1 l1.length l1) (hc1 : l1.length ≤ c1) (h : spec_ShareRises.f k l0 l1 = some (r1, r2)) :
    Calls Try.prog 21 #[.slice A0 l0.length c0, .slice A1 l1.length c1] w fun e w' => ∃ v0_ : Value, e = .returned (.tuple #[v0_, .bool r2]) ∧ Kd.R (Kd.int .i64) 3 w' w.heap.size (fun _ => True) v0_ r1 ∧ Below w.heap.size w w' := by
  have HR0 := Aside0.mk hr0
  have HC0 := Aside0.mk hc0
  clear hr0 hc0
  have HR1 := Aside0.mk hr1
  have HC1 := Aside0.mk hc1
  clear hr1 hc1
  have HB := Aside0.mk (Below.refl w.heap.size w)
  have H : ((some (([] : List Int) : List Int)).bind fun y667 => ((spec_l14Lengths.f k l0).bind fun t670 => (if t670 = true then (spec_ShareRises.j0 k l0 l1 y667 ((l1.length : Int) != (l0.length : Int))) else (spec_ShareRises.j0 k l0 l1 y667 true)))) = some (r1, r2) := h
  clear h
  obtain ⟨y667, hy667⟩ : ∃ y_ : List Int, y_ = (([] : List Int)) := ⟨_, rfl⟩
  replace H : ((spec_l14Lengths.f k l0).bind fun t670 => (if t670 = true then (spec_ShareRises.j0 k l0 l1 y667 ((l1.length : Int) != (l0.length : Int))) else (spec_ShareRises.j0 k l0 l1 y667 true))) = some (r1, r2) := by first | (rw [hy667]; with_reducible exact H) | (have H2_ := (Option.bind_some _ _).symm.trans H; rw [hy667]; with_reducible exact H2_) | (have H2_ := (Option.bind_some _ _).symm.trans H; with_reducible exact H2_) | with_reducible exact H | (rw [hy667]; exact H) | exact H
  have Ny667 := Aside0.mk hy667
  clear hy667
  have HC3 := Aside0.mk H
  clear H
  go_enter Try.func21, Try.ntmps21
  go_upto_region 2 with (first | ((with_reducible refine gate_dst (N := 11) rfl ?_); (try (refine gate_guard (by rfl) ?_; dsimp only)); refine Kd.R_lit (Kd.int .i64) _ 3 ?hg (N := 11) ?hd (xs := ([] : List Int)) (inner := []) (ok := fun _ => True) (okp := fun _ => True) ?hr ?hp (fun _ hk => hk) trivial (Below.refl _ _) (Nat.le_refl _) (by simp) ?_; (case hd => rfl); (case hg => rfl); (case hr => exact qq17); (case hp => exact (Reps.none _ _)); intro v668 w4 ho5 hb hg_ hnew_; clear hg_ hnew_; (first | rw [← Ny667.out] at ho5 | (simp only [Int.reduceToNat] at ho5; rw [← Ny667.out] at ho5)); have n0_ := Aside0.mk (Kd.R_lower ho5 (below_size qq1)); have n1_ := Aside0.mk (below_step qq1 hb); clear HB; have HO669 := n0_; have HB := n1_; clear n0_ n1_; clear hb ho5))
  (try simp only [Act.put, List.setIfInBounds_toArray, List.set_cons_zero, List.set_cons_succ])
  go_cut [21] (fun v21 wc => ∃ (kq : Nat) (x21_2 : Bool), v21 = .bool x21_2 ∧ Aside0 (spec_ShareRises.j0 kq l0 l1 y667 x21_2 = some (r1, r2)) ∧ Aside0 (kq ≤ k) ∧ Aside0 (Kd.R (Kd.int .i64) 3 wc w.heap.size (fun _ => True) v668 y667) ∧ Aside0 (Below w.heap.size w wc))
  case first =>
    have H := HC3.out
    clear HC3
    replace H := Option.bind_eq_some_iff.mp H
    obtain ⟨t670, A60, H⟩ := H
    replace H : (if t670 = true then (spec_ShareRises.j0 k l0 l1 y667 ((l1.length : Int) != (l0.length : Int))) else (spec_ShareRises.j0 k l0 l1 y667 true)) = some (r1, r2) := H
    have A6 := Aside0.mk A60
    clear A60
    by_cases c7 : t670 = true
    · subst c7
      have H1 : (spec_ShareRises.j0 k l0 l1 y667 ((l1.length : Int) != (l0.length : Int))) = some (r1, r2) := by rw [if_pos rfl] at H; exact H
      clear H
      have H := H1
      clear H1
      have H' := Aside0.mk H
      clear H
      go_wp2_with (first | ((with_reducible refine gate_callee (f := 39) rfl ?_); refine goesL_ (some 13) rfl rfl Try.func39 (by kernel_rfl) rfl #[.slice A0 l0.length c0] rfl qq5 ?_; (with_reducible refine (spec_l14Lengths.calls k _ _ l0 true _ ?side1 ?side2 A6.out).mono ?_); (case side1 => exact qq13 HR0.out HB.out); (case side2 => exact HC0.out); rintro e w' ⟨rfl, ⟨nd, rfl⟩⟩; refine ⟨_, rfl, ?_⟩))
      go_meet
      case rel => exact ⟨_, (((l1.length : Int) != (l0.length : Int))), qq9, H', ⟨qq29⟩, ⟨qq2 HO669.out⟩, ⟨qq1⟩⟩
    · replace c7 := Bool.eq_false_iff.mpr c7
      subst c7
      have H1 : (spec_ShareRises.j0 k l0 l1 y667 true) = some (r1, r2) := by rw [if_neg (show ¬ (false = true) by decide)] at H; exact H
      clear H
      have H := H1
      clear H1
      have H' := Aside0.mk H
      clear H
      go_wp2_with (first | ((with_reducible refine gate_callee (f := 39) rfl ?_); refine goesL_ (some 13) rfl rfl Try.func39 (by kernel_rfl) rfl #[.slice A0 l0.length c0] rfl qq5 ?_; (with_reducible refine (spec_l14Lengths.calls k _ _ l0 false _ ?side1 ?side2 A6.out).mono ?_); (case side1 => exact qq13 HR0.out HB.out); (case side2 => exact HC0.out); rintro e w' ⟨rfl, ⟨nd, rfl⟩⟩; refine ⟨_, rfl, ?_⟩))
      go_meet
      case rel => exact ⟨_, (true), qq9, H', ⟨qq29⟩, ⟨qq2 HO669.out⟩, ⟨qq1⟩⟩
  case rest =>
    clear HC3
    try clear c1
    try clear c2
    try clear p2
    try clear c3
    try clear c7
    obtain ⟨kq, x21_2, rfl, HA, HJ2, HO_6, HB⟩ := hcut
    cases kq with
    | zero => exact absurd HA.out (by simp [spec_ShareRises.j0])
    | succ kj2 =>
      have H := HA.out
      clear HA
      simp only [spec_ShareRises.j0] at H
      by_cases c8 : x21_2 = true
      · subst c8
        have H1 : (some (y667, false)) = some (r1, r2) := by rw [if_pos rfl] at H; exact H
        clear H
        have H := H1
        clear H1
        simp only [Option.some.injEq, Prod.mk.injEq] at H
        obtain ⟨rfl, rfl⟩ := H
        go_wp2
        go_ret2
        exact ⟨_, qq12, qq2 HO_6.out, qq1⟩
      · replace c8 := Bool.eq_false_iff.mpr c8
        subst c8
        have H1 : (spec_ShareRises.l0 kj2 l0 l1 y667 0) = some (r1, r2) := by rw [if_neg (show ¬ (false = true) by decide)] at H; exact H
        clear H
        have H := H1
        clear H1
        have H' := Aside0.mk H
        clear H
        go_wp2
        go_loopg [7] kj2 (fun kq v7 w' => ∃ (x7_2 : Int), v7 = .int .i64 x7_2 ∧ Aside0 (spec_ShareRises.l0 kq l0 l1 y667 x7_2 = some (r1, r2)) ∧ Aside0 (kq ≤ kj2) ∧ Aside0 (Kd.R (Kd.int .i64) 3 w' w.heap.size (fun _ => True) v668 y667) ∧ Aside0 (Below w.heap.size w w'))
        case atStart => exact ⟨(0), qq9, H', ⟨Nat.le_refl _⟩, ⟨qq2 HO_6.out⟩, ⟨qq1⟩⟩
        case round =>
          clear H'
          try clear c1
          try clear c2
          try clear p2
          try clear c3
          try clear c7
          try clear c8
          try clear p2
          obtain ⟨x7_2, rfl, HA, HK2, HO_6, HB⟩ := hrel
          cases gk with
          | zero => exact absurd HA.out (by simp [spec_ShareRises.l0])
          | succ k2 =>
            have H := HA.out
            clear HA
            simp only [spec_ShareRises.l0] at H
            by_cases c9 : x7_2 < (l1.length : Int)
            · rw [if_pos c9] at H
              have c9b0 : decide (x7_2 < (l1.length : Int)) = true := decide_eq_true c9
              clear c9
              by_cases c10 : 0 ≤ x7_2
              · rw [if_pos c10] at H
                have c10b0 : decide (0 ≤ x7_2) = true := decide_eq_true c10
                clear c10
                replace H := Option.bind_eq_some_iff.mp H
                obtain ⟨t672, A110, H⟩ := H
                replace H : (if t672 = true then (spec_ShareRises.l0 k2 l0 l1 y667 (wrap64 (x7_2 + 1))) else (some ((([] : List Int)), false))) = some (r1, r2) := H
                have A11 := Aside0.mk A110
                clear A110
                by_cases c12 : t672 = true
                · subst c12
                  have H1 : (spec_ShareRises.l0 k2 l0 l1 y667 (wrap64 (x7_2 + 1))) = some (r1, r2) := by rw [if_pos rfl] at H; exact H
                  clear H
                  have H := H1
                  clear H1
                  have H' := Aside0.mk H
                  clear H
                  have p671 : 0 ≤ (x7_2 : Int) := of_decide_eq_true qq3
                  have q671 : x7_2 < (l1.length : Int) := of_decide_eq_true qq3
                  obtain ⟨ad671, e671, hx671_0⟩ := Kd.at_int HR1.out x7_2 p671 q671
                  cases e671
                  replace hx671_0 := (HB.out.cell (World.block_lt_of_cell? w _ hx671_0)).trans hx671_0
                  replace p671 := eq_true p671
                  replace q671 := eq_true q671
                  go_wp2_with (first | ((with_reducible refine gate_callee (f := 40) rfl ?_); refine goesL_ (some 33) rfl rfl Try.func40 (by kernel_rfl) rfl #[.int .i64 (rd l1 x7_2), .int .i64 (-100000), .int .i64 100000] rfl qq5 ?_; (with_reducible refine (spec_l6In.calls (rd l1 x7_2) (-100000) 100000 true _ A11.out).mono ?_); rintro e w' ⟨rfl, ⟨nd, rfl⟩⟩; refine ⟨_, rfl, ?_⟩))
                  go_roundg k2
                  case measure => have := HJ2.out; have := HK2.out; omega
                  case rel => exact ⟨(wrap64 (x7_2 + 1)), qq9, H', ⟨qq68 HJ2.out HK2.out⟩, ⟨qq2 HO_6.out⟩, ⟨qq1⟩⟩
                · replace c12 := Bool.eq_false_iff.mpr c12
                  subst c12
                  have H1 : (some ((([] : List Int)), false)) = some (r1, r2) := by rw [if_neg (show ¬ (false = true) by decide)] at H; exact H
                  clear H
                  have H := H1
                  clear H1
                  obtain ⟨y673, hy673⟩ : ∃ y_ : List Int, y_ = (([] : List Int)) := ⟨_, rfl⟩
                  replace H : (some (y673, false)) = some (r1, r2) := by first | (rw [hy673]; with_reducible exact H) | (have H2_ := (Option.bind_some _ _).symm.trans H; rw [hy673]; with_reducible exact H2_) | (have H2_ := (Option.bind_some _ _).symm.trans H; with_reducible exact H2_) | with_reducible exact H | (rw [hy673]; exact H) | exact H
                  have Ny673 := Aside0.mk hy673
                  clear hy673
                  simp only [Option.some.injEq, Prod.mk.injEq] at H
                  obtain ⟨rfl, rfl⟩ := H
                  have p671 : 0 ≤ (x7_2 : Int) := of_decide_eq_true qq3
                  have q671 : x7_2 < (l1.length : Int) := of_decide_eq_true qq3
                  obtain ⟨ad671, e671, hx671_0⟩ := Kd.at_int HR1.out x7_2 p671 q671
                  cases e671
                  replace hx671_0 := (HB.out.cell (World.block_lt_of_cell? w _ hx671_0)).trans hx671_0
                  replace p671 := eq_true p671
                  replace q671 := eq_true q671
                  go_wp2_with (first | ((with_reducible refine gate_callee (f := 40) rfl ?_); refine goesL_ (some 33) rfl rfl Try.func40 (by kernel_rfl) rfl #[.int .i64 (rd l1 x7_2), .int .i64 (-100000), .int .i64 100000] rfl qq5 ?_; (with_reducible refine (spec_l6In.calls (rd l1 x7_2) (-100000) 100000 false _ A11.out).mono ?_); rintro e w' ⟨rfl, ⟨nd, rfl⟩⟩; refine ⟨_, rfl, ?_⟩) | ((with_reducible refine gate_dst (N := 35) rfl ?_); (try (refine gate_guard (by rfl) ?_; dsimp only)); refine Kd.R_lit (Kd.int .i64) _ 3 ?hg (N := 35) ?hd (xs := ([] : List Int)) (inner := []) (ok := fun _ => True) (okp := fun _ => True) ?hr ?hp (fun _ hk => hk) trivial (Below.refl _ _) (Nat.le_refl _) (by simp) ?_; (case hd => rfl); (case hg => rfl); (case hr => exact qq17); (case hp => exact (Reps.none _ _)); intro v674 w13 ho14 hb hg_ hnew_; clear hg_ hnew_; (first | rw [← Ny673.out] at ho14 | (simp only [Int.reduceToNat] at ho14; rw [← Ny673.out] at ho14)); have n0_ := Aside0.mk (Kd.R_elder' (qq2 HO_6.out) (Kd.R_base ho14) hb); have n1_ := Aside0.mk (Kd.R_lower (Kd.R_new' ho14 (Kd.R_lt (qq2 HO_6.out))) (below_size qq1)); have n2_ := Aside0.mk (below_step qq1 hb); clear HO_6; clear HB; have HO_6 := n0_; have HO675 := n1_; have HB := n2_; clear n0_ n1_ n2_; clear hb ho14))
                  go_ret2
                  exact ⟨_, qq12, qq21 HO675.out, qq1⟩
              · rw [if_neg c10] at H
                exact absurd H (by simp)
            · rw [if_neg c9] at H
              have c9b0 : decide (x7_2 < (l1.length : Int)) = false := decide_eq_false c9
              clear c9
              replace H := Option.bind_eq_some_iff.mp H
              obtain ⟨t676, A150, H⟩ := H
              replace H : ((spec_ShareOf.f k2 l0 (wrap64 (-t676))).bind fun bt677 => (spec_ShareRises.l1 k2 l1 y667 bt677.1 0)) = some (r1, r2) := H
              have A15 := Aside0.mk A150
              clear A150
              replace H := Option.bind_eq_some_iff.mp H
              obtain ⟨⟨t677, t678⟩, A160, H⟩ := H
              replace H : (spec_ShareRises.l1 k2 l1 y667 t677 0) = some (r1, r2) := H
              have A16 := Aside0.mk A160
              clear A160
              have H' := Aside0.mk H
              clear H
              go_wp2_with (first | ((with_reducible refine gate_callee (f := 42) rfl ?_); refine goesL_ (some 39) rfl rfl Try.func42 (by kernel_rfl) rfl #[.slice A1 l1.length c1] rfl qq5 ?_; (with_reducible refine (spec_l14Sum.calls k2 _ _ l1 t676 _ ?side1 ?side2 A15.out).mono ?_); (case side1 => exact qq44); (case side2 => exact HC1.out); rintro e w' ⟨rfl, ⟨nd, rfl⟩⟩; refine ⟨_, rfl, ?_⟩) | ((with_reducible refine gate_callee (f := 41) rfl ?_); refine goesL_ (some 41) rfl rfl Try.func41 (by kernel_rfl) rfl #[.slice A0 l0.length c0, .int .i64 (wrap64 (-t676))] rfl qq5 ?_; (with_reducible refine (spec_ShareOf.calls k2 _ _ l0 (wrap64 (-t676)) t677 t678 _ ?side1 ?side2 A16.out).mono ?_); (case side1 => exact qq61); (case side2 => exact HC0.out); rintro e w17 ⟨v679, rfl, ho0, hb⟩; refine ⟨_, rfl, ?_⟩; have n0_ := Aside0.mk (Kd.R_elder' (qq2 HO_6.out) (Kd.R_base ho0) hb); have n1_ := Aside0.mk (Kd.R_lower (Kd.R_new' ho0 (Kd.R_lt (qq2 HO_6.out))) (below_size qq1)); have n2_ := Aside0.mk (below_step qq1 hb); clear HO_6; clear HB; have HO_6 := n0_; have HO680 := n1_; have HB := n2_; clear n0_ n1_ n2_; (try clear hb); (try clear hb2); (try clear hk); (try clear hi); (try clear ho0)))
              go_loopg [6, 10] k2 (fun kq v6 v10 w' => ∃ (x6_3 : List Int) (x10_3 : Int), v10 = .int .i64 x10_3 ∧ Aside0 (spec_ShareRises.l1 kq l1 x6_3 t677 x10_3 = some (r1, r2)) ∧ Aside0 (kq ≤ k2) ∧ Aside0 (Kd.R (Kd.int .i64) 3 w' w.heap.size (fun k_ => some k_ ≠ (v679 : Value).ownBlock) v6 x6_3) ∧ Aside0 (Kd.R (Kd.int .i64) 3 w' w.heap.size (fun k_ => some k_ ≠ (v6 : Value).ownBlock) v679 t677) ∧ Aside0 (Below w.heap.size w w'))
              case atStart => exact ⟨(y667), (0), qq9, H', ⟨Nat.le_refl _⟩, ⟨qq18 HO_6.out⟩, ⟨qq18 HO680.out⟩, ⟨qq1⟩⟩
              case round =>
                clear H'
                try clear c1
                try clear c2
                try clear p2
                try clear c3
                try clear c4
                try clear p6
                try clear q6
                try clear hx6
                try clear c7
                try clear c8
                try clear c9
                try clear c9b0
                try clear c10
                try clear c10b0
                try clear c12
                try clear hx671_0
                try clear p2
                try clear p671
                try clear q671
                obtain ⟨x6_3, x10_3, rfl, HA, HK3, HO_6, HO_8, HB⟩ := hrel
                cases gk with
                | zero => exact absurd HA.out (by simp [spec_ShareRises.l1])
                | succ k3 =>
                  have H := HA.out
                  clear HA
                  simp only [spec_ShareRises.l1] at H
                  by_cases c18 : x10_3 < (l1.length : Int)
                  · rw [if_pos c18] at H
                    have c18b0 : decide (x10_3 < (l1.length : Int)) = true := decide_eq_true c18
                    clear c18
                    by_cases c19 : 0 ≤ x10_3
                    · rw [if_pos c19] at H
                      have c19b0 : decide (0 ≤ x10_3) = true := decide_eq_true c19
                      clear c19
                      by_cases c20 : x10_3 < (t677.length : Int)
                      · rw [if_pos c20] at H
                        have c20b0 : decide (x10_3 < (t677.length : Int)) = true := decide_eq_true c20
                        clear c20
                        by_cases c21 : x6_3.length < 17592186044416
                        · rw [if_pos c21] at H
                          have LMc21 := Aside0.mk c21
                          clear c21
                          obtain ⟨y683, hy683⟩ : ∃ y_ : List Int, y_ = (x6_3 ++ [wrap64 ((rd l1 x10_3) + (rd t677 x10_3))]) := ⟨_, rfl⟩
                          replace H : (spec_ShareRises.l1 k3 l1 y683 t677 (wrap64 (x10_3 + 1))) = some (r1, r2) := by first | (rw [hy683]; with_reducible exact H) | (have H2_ := (Option.bind_some _ _).symm.trans H; rw [hy683]; with_reducible exact H2_) | (have H2_ := (Option.bind_some _ _).symm.trans H; with_reducible exact H2_) | with_reducible exact H | (rw [hy683]; exact H) | exact H
                          have Ny683 := Aside0.mk hy683
                          clear hy683
                          have H' := Aside0.mk H
                          clear H
                          try go_wp2
                          have n0_ := Aside0.mk (Kd.R_drew HO_6.out)
                          have n1_ := Aside0.mk (Kd.R_drew HO_8.out)
                          have n2_ := Aside0.mk (below_drew1 HB.out)
                          clear HO_6
                          clear HO_8
                          clear HB
                          have HO_6 := n0_
                          have HO_8 := n1_
                          have HB := n2_
                          clear n0_ n1_ n2_
                          have p681 : 0 ≤ (x10_3 : Int) := of_decide_eq_true qq3
                          have q681 : x10_3 < (l1.length : Int) := of_decide_eq_true qq3
                          obtain ⟨ad681, e681, hx681_0⟩ := Kd.at_int HR1.out x10_3 p681 q681
                          have hw681_0 := hx681_0
                          cases e681
                          replace hx681_0 := (HB.out.cell (World.block_lt_of_cell? w _ hx681_0)).trans hx681_0
                          replace p681 := eq_true p681
                          replace q681 := eq_true q681
                          obtain ⟨Ao23, co23, eo23⟩ := Kd.R_slice HO_8.out
                          (first | subst eo23 | (injection eo23 with f1_ f2_ f3_; have f4_ := f1_.symm; have f5_ := f3_.symm; clear f1_ f2_ f3_; subst f4_; subst f5_))
                          have p682 : 0 ≤ (x10_3 : Int) := of_decide_eq_true qq3
                          have q682 : x10_3 < (t677.length : Int) := of_decide_eq_true qq3
                          obtain ⟨ad682, e682, hx682_0⟩ := Kd.at_int (Kd.R_reads' HO_8.out).2.2 x10_3 p682 q682
                          cases e682
                          replace p682 := eq_true p682
                          replace q682 := eq_true q682
                          refine start_ (n := 13) (S := fun w' => w'.cell? (ad681.add (x10_3).toNat) = some (.int .i64 (rd l1 x10_3)) ∧ w'.cell? (ad682.add (x10_3).toNat) = some (.int .i64 (rd t677 x10_3))) (ds := [10, 11]) #[false, false, false, false, false, false, false, false, false, false, false, false, false] (by kernel_rfl) rfl rfl ⟨((HB.out.cell (World.block_lt_of_cell? w _ hw681_0)).trans hw681_0), hx682_0⟩ (fun hHeld => ?_); refine with_tabW spec_ShareRises.tab13 spec_ShareRises.bits13 (fun HT_ HW_ => ?_)
                          generalize wr.drew = w22 at HO_6 HO_8 HB hx681_0 hx682_0 hHeld ⊢
                          refine pure_ (i := 0) (N := some 50) #[true, false, false, false, false, false, false, false, false, false, false, false, false] rfl rfl (any_of HT_.out (by kernel_rfl)) (fun _ _ _ h => h) (Or.inl ⟨by rfl, pA_⟩) pB_ ?_
                          refine pure_ (i := 1) (N := some 51) #[true, true, false, false, false, false, false, false, false, false, false, false, false] rfl rfl (any_of HT_.out (by kernel_rfl)) (fun _ _ _ h => h) (Or.inl ⟨by rfl, pA_⟩) pB_ ?_
                          refine pure_ (i := 2) (N := some 52) #[true, true, true, false, false, false, false, false, false, false, false, false, false] rfl rfl (any_of HT_.out (by kernel_rfl)) (fun _ _ _ h => h) (Or.inl ⟨by rfl, pA_⟩) pB_ ?_
                          refine pure_ (i := 3) (N := some 53) #[true, true, true, true, false, false, false, false, false, false, false, false, false] rfl rfl (any_of HT_.out (by kernel_rfl)) (fun _ _ _ h => h) (Or.inl ⟨by rfl, pA_⟩) pB_ ?_
                          refine pure_ (i := 5) (N := some 55) #[true, true, true, true, false, true, false, false, false, false, false, false, false] rfl rfl (any_of HT_.out (by kernel_rfl)) (fun _ _ _ h => h) (Or.inl ⟨by rfl, pA_⟩) pB_ ?_
                          refine pure_ (i := 6) (N := some 56) #[true, true, true, true, false, true, true, false, false, false, false, false, false] rfl rfl (any_of HT_.out (by kernel_rfl)) (fun _ _ _ h => h) (Or.inl ⟨by rfl, pA_⟩) pB_ ?_
                          refine pure_ (i := 7) (N := some 57) #[true, true, true, true, false, true, true, true, false, false, false, false, false] rfl rfl (any_of HT_.out (by kernel_rfl)) (fun _ _ _ h => h) (Or.inl ⟨by rfl, pA_⟩) pB_ ?_
                          refine take_ (i := 4) (N := some 54) (v := ?_) (a' := ?_) #[true, true, true, true, true, true, true, true, false, false, false, false, false] rfl rfl (take_ofW HT_.out HW_.out (by kernel_rfl)) (fun _ _ _ h => h) (Or.inl ⟨by rfl, ?_⟩) hHeld ?_ ?_
                          rotate_left
                          · rintro w' ⟨s0, s1⟩
                            go_simp
                            with_reducible rfl
                          rotate_left
                          · simp only [Act.put, List.setIfInBounds_toArray, List.set_cons_zero, List.set_cons_succ, i64_w, i32_w]
                            rfl
                          refine take_ (i := 8) (N := some 58) (v := ?_) (a' := ?_) #[true, true, true, true, true, true, true, true, true, false, false, false, false] rfl rfl (take_ofW HT_.out HW_.out (by kernel_rfl)) (fun _ _ _ h => h) (Or.inl ⟨by rfl, ?_⟩) hHeld ?_ ?_
                          rotate_left
                          · rintro w' ⟨s0, s1⟩
                            go_simp
                            with_reducible rfl
                          rotate_left
                          · simp only [Act.put, List.setIfInBounds_toArray, List.set_cons_zero, List.set_cons_succ, i64_w, i32_w]
                            rfl
                          refine pure_ (i := 9) (N := some 59) #[true, true, true, true, true, true, true, true, true, true, false, false, false] rfl rfl (any_of HT_.out (by kernel_rfl)) (fun _ _ _ h => h) (Or.inl ⟨by rfl, pA_⟩) pB_ ?_
                          refine last_ (i := 10) (N := some 60) #[true, true, true, true, true, true, true, true, true, true, true, false, false] rfl rfl (one_of HT_.out (by kernel_rfl)) (by decide) (fun K hK => ?_)
                          refine value_ (w1 := ?_) (v := ?_) (by rfl) rfl ?_ ?_
                          rotate_left 2
                          · go_simp
                            constructor
                            · rfl
                            · rfl
                          refine hK.out _ _ ?_
                          clear hK K
                          refine norm_ (a' := ?_) ?_ ?_
                          rotate_left
                          · show Act.put _ (some 60) _ = _
                            simp only [Act.put, List.setIfInBounds_toArray, List.set_cons_zero, List.set_cons_succ, i64_w, i32_w]
                            rfl
                          refine last_ (i := 11) (N := some 61) #[true, true, true, true, true, true, true, true, true, true, true, true, false] rfl rfl (one_of HT_.out (by kernel_rfl)) (by decide) (fun K hK => ?_)
                          refine Kd.R_append_step (Kd.int .i64) (w0 := w) w.heap.size (by rfl) (.tmp 50) (.tmp 60) 27 3 (.int .i64 0) 8 rfl Try.underlying27 info3 rfl (by decide) (by omega) u6 x6_3 (wrap64 ((rd l1 x10_3) + (rd t677 x10_3))) [.int .i64 (wrap64 ((rd l1 x10_3) + (rd t677 x10_3)))] (fun k_ => some k_ ≠ (.slice (some ad682) t677.length co23 : Value).ownBlock) (fun _ => False) rfl rfl ?aP (fun _ hk => hk.elim) ?aF ?aO ?aB ?aS ?aL ?_
                          (case aP => exact rfl)
                          (case aB => exact qq1)
                          (case aF => exact qq48 HO_8.out)
                          (case aO => exact (qq2 HO_6.out))
                          (case aS => exact (below_size qq1))
                          (case aL => have := LMc21.out; omega)
                          intro v684 w24 ho hb hg hat
                          rw [← Ny683.out] at ho
                          have n0_ := Aside0.mk (Kd.R_after (ok := (fun _ => True)) (qq23 HO_8.out) hg hat)
                          have n1_ := Aside0.mk (hb)
                          have n2_ := Aside0.mk (ho)
                          clear HO_8
                          clear HB
                          clear HO_6
                          have HO_8 := n0_
                          have HB := n1_
                          have HO685 := n2_
                          clear n0_ n1_ n2_
                          clear ho hb hg hat
                          refine hK.out _ _ ?_
                          clear hK K
                          refine norm_ (a' := ?_) ?_ ?_
                          rotate_left
                          · show Act.put _ (some 61) _ = _
                            simp only [Act.put, List.setIfInBounds_toArray, List.set_cons_zero, List.set_cons_succ, i64_w, i32_w]
                            rfl
                          refine pure_ (i := 12) (N := some 6) #[true, true, true, true, true, true, true, true, true, true, true, true, true] rfl rfl (any_of HT_.out (by kernel_rfl)) (fun _ _ _ h => h) (Or.inl ⟨by rfl, pA_⟩) pB_ ?_
                          refine done_ (done_of HT_.out (by kernel_rfl)) ?_
                          try go_wp2
                          go_roundg k3
                          case measure => have := HJ2.out; have := HK2.out; have := HK3.out; omega
                          case rel => exact ⟨(y683), (wrap64 (x10_3 + 1)), qq9, H', ⟨by have := HJ2.out; have := HK2.out; have := HK3.out; omega⟩, ⟨qq2 HO685.out⟩, ⟨qq18 HO_8.out⟩, ⟨qq1⟩⟩
                        · rw [if_neg c21] at H
                          exact absurd H (by simp)
                      · rw [if_neg c20] at H
                        exact absurd H (by simp)
                    · rw [if_neg c19] at H
                      exact absurd H (by simp)
                  · rw [if_neg c18] at H
                    have c18b0 : decide (x10_3 < (l1.length : Int)) = false := decide_eq_false c18
                    clear c18
                    simp only [Option.some.injEq, Prod.mk.injEq] at H
                    obtain ⟨rfl, rfl⟩ := H
                    go_wp2
                    go_ret2
                    exact ⟨_, qq12, qq21 HO_6.out, qq1⟩

end Go.Proofs.Ytmcfhmflncghiaa.Q
namespace Go.Proofs.Ytmcfhmflncghiaa.Q
open Go.RowKit Go.Proofs.YtmcfhmflncghiaaW.PrintWords Go.Proofs.YtmcfhmflncghiaaW.PrintLast Go.Proofs.YtmcfhmflncghiaaW.PrintMore
attribute [local go_sem] max2_int min2_int max_two min_two max_three min_three max_four min_four
set_option linter.unusedVariables false
set_option linter.unusedSimpArgs false

/-! ### laws_FnShareNet: function 5 -/
mutual
def laws_FnShareNet.j0 : Nat → List Int → Bool → List Int → Bool → Bool → Option (Bool)
  | 0, _, _, _, _, _ => none
  | k + 1, x5, x6, x7, x8, x47 => if x47 = true then (if (x6 == x8) = true then ((laws_sameInts.f k x5 x7).bind fun t702 => (some t702)) else (some false)) else (if (x5.length : Int) = 3 then (laws_FnShareNet.l0 k x5 (([(⟨3, 1, 7, 2⟩ : S32)] : List (S32))) 0) else ((laws_sumOf.f k x5).bind fun t703 => (some (t703 == 0))))
def laws_FnShareNet.l0 : Nat → List Int → List (S32) → Int → Option (Bool)
  | 0, _, _, _ => none
  | k + 1, x5, x9, x10 => if x10 < 3 then (if 0 ≤ x10 then (if x10 < (x5.length : Int) then (if x9.length < 4398046511104 then (laws_FnShareNet.l0 k x5 (x9 ++ [(⟨x10, Int.tmod (wrap64 (x10 + 1)) 3, rd x5 x10, 1⟩ : S32)]) (wrap64 (x10 + 1))) else (none)) else (none)) else (none)) else ((impl_NetValid.f k 4 x9).bind fun t711 => (if t711 = true then ((impl_TreeFirst.f k 4 x9).bind fun bt715 => ((impl_TreeHeights.f k 4 x9 bt715.1).bind fun bt719 => (if bt715.2 = true then (if bt719.2 = true then ((impl_LoopCloses.f k 4 x9).bind fun t723 => (if t723 = true then ((impl_NetFits.f k 4 x9 bt719.1).bind fun t724 => (if t724 = true then (if 1 < (bt719.1.length : Int) then (if 3 < (bt719.1.length : Int) then (some ((wrap64 ((rd bt719.1 1) - (rd bt719.1 3))) == 7)) else (none)) else (none)) else (some false))) else (some false))) else (some false)) else (some false)))) else (if 0 < (x5.length : Int) then (if 1 < (x5.length : Int) then (if 2 < (x5.length : Int) then (some ((wrap64 ((wrap64 ((rd x5 0) + (rd x5 1))) + (rd x5 2))) == 0)) else (none)) else (none)) else (none))))
end
def laws_FnShareNet.f (k : Nat) (l0 : List Int) : Option (Bool) := if (l0.length : Int) > 1048576 then (some true) else ((spec_DrawShareRises.f k l0).bind fun bt687 => ((impl_ShareRises.f k bt687.1 bt687.2).bind fun bt693 => ((spec_ShareRises.f k bt687.1 bt687.2).bind fun bt697 => (if (bt693.2 != bt697.2) = true then (laws_FnShareNet.j0 k bt693.1 bt693.2 bt697.1 bt697.2 true) else ((laws_sameInts.f k bt693.1 bt697.1).bind fun t701 => (if t701 = true then (laws_FnShareNet.j0 k bt693.1 bt693.2 bt697.1 bt697.2 (!bt693.2)) else (laws_FnShareNet.j0 k bt693.1 bt693.2 bt697.1 bt697.2 true)))))))
def laws_FnShareNet.T16 : Bool × List (List Nat × List Nat) := (true, [([], []), ([0], [0]), ([1], [1]), ([], []), ([3], [3]), ([4], [4]), ([2, 5], [2, 5]), ([], []), ([7], [7]), ([8], [8]), ([6, 9], [6, 9]), ([10], [10]), ([11, 0, 1, 2, 3, 4, 5, 6, 7, 8, 9, 10, 11], [11])])
def laws_FnShareNet.B16 : List Nat := [0, 1, 3, 0, 8, 24, 63, 0, 128, 384, 1023, 2047, 4095]
theorem laws_FnShareNet.tab16 : rtab .any (opsOf Try.f5 16) = laws_FnShareNet.T16 := by kernel_rfl
theorem laws_FnShareNet.bits16 : waitsOk laws_FnShareNet.T16.2 laws_FnShareNet.B16 = true := by kernel_rfl
def laws_FnShareNet.T19 : Bool × List (List Nat × List Nat) := (true, [([], []), ([0], [0]), ([1], [1]), ([1, 2], [1, 2]), ([3, 1], [3]), ([4], [4]), ([5, 4, 4], [4, 5]), ([4, 6], [4, 6]), ([7, 6], [7]), ([8], [8]), ([8], [8]), ([9, 10, 8, 8], [8, 9, 10]), ([8, 11], [8, 11]), ([12, 11], [12]), ([13], [13]), ([14, 13], [13, 14]), ([15, 13], [13, 15]), ([13], [13]), ([17, 13], [13, 17]), ([18, 13], [13, 18]), ([16, 19, 13], [13, 16, 19]), ([20, 13], [13, 20]), ([13, 21], [13, 21]), ([22, 13, 0, 1, 2, 3, 4, 5, 6, 7, 8, 9, 10, 11, 12, 13, 14, 15, 16, 17, 18, 19, 20, 21, 22], [22])])
def laws_FnShareNet.B19 : List Nat := [0, 1, 3, 7, 15, 31, 63, 127, 255, 511, 511, 2047, 4095, 8191, 16383, 32767, 65535, 16383, 147455, 409599, 1048575, 2097151, 4194303, 8388607]
theorem laws_FnShareNet.tab19 : rtab .any (opsOf Try.f5 19) = laws_FnShareNet.T19 := by kernel_rfl
theorem laws_FnShareNet.bits19 : waitsOk laws_FnShareNet.T19.2 laws_FnShareNet.B19 = true := by kernel_rfl
set_option maxHeartbeats 8000000 in
set_option maxRecDepth 100000 in
theorem laws_FnShareNet.calls (k : Nat) (A0 : Option Addr) (c0 : Nat) (l0 : List Int) (r : Bool) (w : World) (hr0 : Kd.C (Kd.int .u8) w A0 l0.length l0) (hc0 : l0.length ≤ c0) (h : laws_FnShareNet.f k l0 = some r) (hT0 : r = true) :
    Calls Try.prog 5 #[.slice A0 l0.length c0] w fun e w' => e = .returned (.bool r) ∧ Below w.heap.size w w' := by
  have hu32 := Try.underlying32
  have hT := Aside0.mk hT0
  clear hT0
  have HR0 := Aside0.mk hr0
  have HC0 := Aside0.mk hc0
  clear hr0 hc0
  have HB := Aside0.mk (Below.refl w.heap.size w)
  have H : (if (l0.length : Int) > 1048576 then (some true) else ((spec_DrawShareRises.f k l0).bind fun bt687 => ((impl_ShareRises.f k bt687.1 bt687.2).bind fun bt693 => ((spec_ShareRises.f k bt687.1 bt687.2).bind fun bt697 => (if (bt693.2 != bt697.2) = true then (laws_FnShareNet.j0 k bt693.1 bt693.2 bt697.1 bt697.2 true) else ((laws_sameInts.f k bt693.1 bt697.1).bind fun t701 => (if t701 = true then (laws_FnShareNet.j0 k bt693.1 bt693.2 bt697.1 bt697.2 (!bt693.2)) else (laws_FnShareNet.j0 k bt693.1 bt693.2 bt697.1 bt697.2 true)))))))) = some r := h
  clear h
  by_cases c2 : (l0.length : Int) > 1048576
  · rw [if_pos c2] at H
    have c2b0 : decide (1048576 < (l0.length : Int)) = true := decide_eq_true c2
    have c2b1 : decide (1048576 < l0.length) = true := decide_eq_true (by omega)
    clear c2
    obtain rfl := Option.some.inj H
    go_enter Try.func5, Try.ntmps5
    go_wp2
    go_ret
    exact ⟨qq12, qq1⟩
  · rw [if_neg c2] at H
    have c2b0 : decide (1048576 < (l0.length : Int)) = false := decide_eq_false c2
    have c2b1 : decide (1048576 < l0.length) = false := decide_eq_false (by omega)
    clear c2
    replace H := Option.bind_eq_some_iff.mp H
    obtain ⟨⟨t687, t688⟩, A30, H⟩ := H
    replace H : ((impl_ShareRises.f k t687 t688).bind fun bt693 => ((spec_ShareRises.f k t687 t688).bind fun bt697 => (if (bt693.2 != bt697.2) = true then (laws_FnShareNet.j0 k bt693.1 bt693.2 bt697.1 bt697.2 true) else ((laws_sameInts.f k bt693.1 bt697.1).bind fun t701 => (if t701 = true then (laws_FnShareNet.j0 k bt693.1 bt693.2 bt697.1 bt697.2 (!bt693.2)) else (laws_FnShareNet.j0 k bt693.1 bt693.2 bt697.1 bt697.2 true)))))) = some r := H
    have A3 := Aside0.mk A30
    clear A30
    replace H := Option.bind_eq_some_iff.mp H
    obtain ⟨⟨t693, t694⟩, A40, H⟩ := H
    replace H : ((spec_ShareRises.f k t687 t688).bind fun bt697 => (if (t694 != bt697.2) = true then (laws_FnShareNet.j0 k t693 t694 bt697.1 bt697.2 true) else ((laws_sameInts.f k t693 bt697.1).bind fun t701 => (if t701 = true then (laws_FnShareNet.j0 k t693 t694 bt697.1 bt697.2 (!t694)) else (laws_FnShareNet.j0 k t693 t694 bt697.1 bt697.2 true))))) = some r := H
    have A4 := Aside0.mk A40
    clear A40
    replace H := Option.bind_eq_some_iff.mp H
    obtain ⟨⟨t697, t698⟩, A50, H⟩ := H
    replace H : (if (t694 != t698) = true then (laws_FnShareNet.j0 k t693 t694 t697 t698 true) else ((laws_sameInts.f k t693 t697).bind fun t701 => (if t701 = true then (laws_FnShareNet.j0 k t693 t694 t697 t698 (!t694)) else (laws_FnShareNet.j0 k t693 t694 t697 t698 true)))) = some r := H
    have A5 := Aside0.mk A50
    clear A50
    have HC6 := Aside0.mk H
    clear H
    go_enter Try.func5, Try.ntmps5
    go_upto_region 6 with (first | ((with_reducible refine gate_callee (f := 19) rfl ?_); refine goesL_ (some 20) rfl rfl Try.func19 (by kernel_rfl) rfl #[.slice A0 l0.length c0] rfl qq5 ?_; (with_reducible refine (spec_DrawShareRises.calls k _ _ l0 t687 t688 _ ?side1 ?side2 A3.out).mono ?_); (case side1 => exact qq15 HR0.out); (case side2 => exact HC0.out); rintro e w7 ⟨v689, v691, rfl, ho0, ho1, hb⟩; refine ⟨_, rfl, ?_⟩; have n0_ := Aside0.mk (Kd.R_lower ho0 (below_size qq1)); have n1_ := Aside0.mk (Kd.Q_lower ho1 (below_size qq1)); have n2_ := Aside0.mk (below_step qq1 hb); clear HB; have HO690 := n0_; have HO692 := n1_; have HB := n2_; clear n0_ n1_ n2_; (try clear hb); (try clear hb2); (try clear hk); (try clear hi); (try clear ho0); (try clear ho1); obtain ⟨Ao8, co8, eo8⟩ := Kd.R_slice HO690.out; subst eo8; obtain ⟨Ao9, co9, eo9, _⟩ := Kd.Q_slice HO692.out; subst eo9) | ((with_reducible refine gate_callee (f := 20) rfl ?_); refine goesL_ (some 26) rfl rfl Try.func20 (by kernel_rfl) rfl #[.slice Ao8 t687.length co8, .slice Ao9 t688.length co9] rfl qq5 ?_; (with_reducible refine (impl_ShareRises.calls k _ _ t687 _ _ t688 t693 t694 _ ?side1 ?side2 ?side3 ?side4 A4.out).mono ?_); (case side1 => exact qq14 HO690.out); (case side2 => exact qq47 HO690.out); (case side3 => exact qq60); (case side4 => exact (Kd.Q_reads' HO692.out).2.1); rintro e w10 ⟨v695, rfl, ho0, hb⟩; refine ⟨_, rfl, ?_⟩; have n0_ := Aside0.mk (Kd.R_elder' (qq2 HO690.out) (Kd.R_base ho0) hb); have n1_ := Aside0.mk (Kd.Q_elder' qq46 (Kd.R_base ho0) hb); have n2_ := Aside0.mk (Kd.R_lower (Kd.R_new' (Kd.R_new' ho0 (Kd.R_lt (qq2 HO690.out))) (Kd.Q_lt qq46)) (below_size qq1)); have n3_ := Aside0.mk (below_step qq1 hb); clear HO690; clear HO692; clear HB; have HO690 := n0_; have HO692 := n1_; have HO696 := n2_; have HB := n3_; clear n0_ n1_ n2_ n3_; (try clear hb); (try clear hb2); (try clear hk); (try clear hi); (try clear ho0)) | ((with_reducible refine gate_callee (f := 21) rfl ?_); refine goesL_ (some 32) rfl rfl Try.func21 (by kernel_rfl) rfl #[.slice Ao8 t687.length co8, .slice Ao9 t688.length co9] rfl qq5 ?_; (with_reducible refine (spec_ShareRises.calls k _ _ t687 _ _ t688 t697 t698 _ ?side1 ?side2 ?side3 ?side4 A5.out).mono ?_); (case side1 => exact qq14 HO690.out); (case side2 => exact qq47 HO690.out); (case side3 => exact qq60); (case side4 => exact (Kd.Q_reads' HO692.out).2.1); rintro e w11 ⟨v699, rfl, ho0, hb⟩; refine ⟨_, rfl, ?_⟩; have n0_ := Aside0.mk (Kd.R_elder' (qq2 HO690.out) (Kd.R_base ho0) hb); have n1_ := Aside0.mk (Kd.Q_elder' qq46 (Kd.R_base ho0) hb); have n2_ := Aside0.mk (Kd.R_elder' (qq2 HO696.out) (Kd.R_base ho0) hb); have n3_ := Aside0.mk (Kd.R_lower (Kd.R_new' (Kd.R_new' (Kd.R_new' ho0 (Kd.R_lt (qq2 HO690.out))) (Kd.Q_lt qq46)) (Kd.R_lt (qq2 HO696.out))) (below_size qq1)); have n4_ := Aside0.mk (below_step qq1 hb); clear HO690; clear HO692; clear HO696; clear HB; have HO690 := n0_; have HO692 := n1_; have HO696 := n2_; have HO700 := n3_; have HB := n4_; clear n0_ n1_ n2_ n3_ n4_; (try clear hb); (try clear hb2); (try clear hk); (try clear hi); (try clear ho0)))
    (try simp only [Act.put, List.setIfInBounds_toArray, List.set_cons_zero, List.set_cons_succ])
    go_cut [47] (fun v47 wc => ∃ (kq : Nat) (x47_5 : Bool), v47 = .bool x47_5 ∧ Aside0 (laws_FnShareNet.j0 kq t693 t694 t697 t698 x47_5 = some r) ∧ Aside0 (kq ≤ k) ∧ Aside0 (Kd.R (Kd.int .i64) 3 wc w.heap.size (fun k_ => some k_ ≠ (v699 : Value).ownBlock) v695 t693) ∧ Aside0 (Kd.R (Kd.int .i64) 3 wc w.heap.size (fun k_ => some k_ ≠ (v695 : Value).ownBlock) v699 t697) ∧ Aside0 (Below w.heap.size w wc))
    case first =>
      have H := HC6.out
      clear HC6
      by_cases c12 : (t694 != t698) = true
      · rw [if_pos c12] at H
        have c12b0 : (t694 != t698) = true := c12
        (try (have c12b1 : decide (t694 = t698) = false := by simpa using c12))
        (try (have c12b2 : (t694 == t698) = false := by simpa using c12))
        (try (have c12b3 : ¬ (t694 = t698) := by simpa using c12))
        clear c12
        (first | rw [c12b0] | (simp only [i64_w, i32_w]; rw [c12b0]) | skip)
        have H' := Aside0.mk H
        clear H
        go_wp2
        go_meet
        case rel => exact ⟨_, (true), qq9, H', ⟨qq29⟩, ⟨qq18 HO696.out⟩, ⟨qq18 HO700.out⟩, ⟨qq1⟩⟩
      · rw [if_neg c12] at H
        have c12b0 : (t694 != t698) = false := by simpa using c12
        (try (have c12b1 : decide (t694 = t698) = true := by simpa using c12))
        (try (have c12b2 : (t694 == t698) = true := by simpa using c12))
        clear c12
        (first | rw [c12b0] | (simp only [i64_w, i32_w]; rw [c12b0]) | skip)
        replace H := Option.bind_eq_some_iff.mp H
        obtain ⟨t701, A130, H⟩ := H
        replace H : (if t701 = true then (laws_FnShareNet.j0 k t693 t694 t697 t698 (!t694)) else (laws_FnShareNet.j0 k t693 t694 t697 t698 true)) = some r := H
        have A13 := Aside0.mk A130
        clear A130
        by_cases c14 : t701 = true
        · subst c14
          have H1 : (laws_FnShareNet.j0 k t693 t694 t697 t698 (!t694)) = some r := by rw [if_pos rfl] at H; exact H
          clear H
          have H := H1
          clear H1
          have H' := Aside0.mk H
          clear H
          obtain ⟨Ao15, co15, eo15⟩ := Kd.R_slice HO696.out
          subst eo15
          obtain ⟨Ao16, co16, eo16⟩ := Kd.R_slice HO700.out
          subst eo16
          go_wp2_with (first | (go_at_call 17; (with_reducible refine (laws_sameInts.calls k _ _ t693 _ _ t697 true _ ?side1 ?side2 ?side3 ?side4 A13.out).mono ?_); (case side1 => exact qq14 HO696.out); (case side2 => exact qq47 HO696.out); (case side3 => exact qq14 HO700.out); (case side4 => exact qq47 HO700.out); rintro e w' ⟨rfl, ⟨nd, rfl⟩⟩))
          go_meet
          case rel => exact ⟨_, (!t694), qq9, H', ⟨qq29⟩, ⟨qq18 HO696.out⟩, ⟨qq18 HO700.out⟩, ⟨qq1⟩⟩
        · replace c14 := Bool.eq_false_iff.mpr c14
          subst c14
          have H1 : (laws_FnShareNet.j0 k t693 t694 t697 t698 true) = some r := by rw [if_neg (show ¬ (false = true) by decide)] at H; exact H
          clear H
          have H := H1
          clear H1
          have H' := Aside0.mk H
          clear H
          obtain ⟨Ao17, co17, eo17⟩ := Kd.R_slice HO696.out
          subst eo17
          obtain ⟨Ao18, co18, eo18⟩ := Kd.R_slice HO700.out
          subst eo18
          go_wp2_with (first | (go_at_call 17; (with_reducible refine (laws_sameInts.calls k _ _ t693 _ _ t697 false _ ?side1 ?side2 ?side3 ?side4 A13.out).mono ?_); (case side1 => exact qq14 HO696.out); (case side2 => exact qq47 HO696.out); (case side3 => exact qq14 HO700.out); (case side4 => exact qq47 HO700.out); rintro e w' ⟨rfl, ⟨nd, rfl⟩⟩))
          go_meet
          case rel => exact ⟨_, (true), qq9, H', ⟨qq29⟩, ⟨qq18 HO696.out⟩, ⟨qq18 HO700.out⟩, ⟨qq1⟩⟩
    case rest =>
      clear HC6
      try clear c1
      try clear c2
      try clear c2b0
      try clear c2b1
      try clear p2
      try clear c5
      try clear c12
      try clear c12b0
      try clear c12b1
      try clear c12b2
      try clear c14
      obtain ⟨kq, x47_5, rfl, HA, HJ5, HO_5, HO_7, HB⟩ := hcut
      cases kq with
      | zero => exact absurd HA.out (by simp [laws_FnShareNet.j0])
      | succ kj5 =>
        have H := HA.out
        clear HA
        simp only [laws_FnShareNet.j0] at H
        by_cases c19 : x47_5 = true
        · subst c19
          have H1 : (if (t694 == t698) = true then ((laws_sameInts.f kj5 t693 t697).bind fun t702 => (some t702)) else (some false)) = some r := by rw [if_pos rfl] at H; exact H
          clear H
          have H := H1
          clear H1
          by_cases c20 : (t694 == t698) = true
          · rw [if_pos c20] at H
            have c20b0 : (t694 == t698) = true := c20
            (try (have c20b1 : decide (t694 = t698) = true := by simpa using c20))
            (try (have c20b2 : (t694 == t698) = true := by simpa using c20))
            clear c20
            replace H := Option.bind_eq_some_iff.mp H
            obtain ⟨t702, A210, H⟩ := H
            replace H : (some t702) = some r := H
            have A21 := Aside0.mk A210
            clear A210
            obtain rfl := Option.some.inj H
            obtain ⟨Ao22, co22, eo22⟩ := Kd.R_slice HO_5.out
            subst eo22
            obtain ⟨Ao23, co23, eo23⟩ := Kd.R_slice HO_7.out
            subst eo23
            go_wp2_with (first | (go_at_call 17; (with_reducible refine (laws_sameInts.calls kj5 _ _ t693 _ _ t697 t702 _ ?side1 ?side2 ?side3 ?side4 A21.out).mono ?_); (case side1 => exact qq14 HO_5.out); (case side2 => exact qq47 HO_5.out); (case side3 => exact qq14 HO_7.out); (case side4 => exact qq47 HO_7.out); rintro e w' ⟨rfl, ⟨nd, rfl⟩⟩))
            go_ret
            exact ⟨qq12, qq1⟩
          · rw [if_neg c20] at H
            have c20b0 : (t694 == t698) = false := by simpa using c20
            (try (have c20b1 : decide (t694 = t698) = false := by simpa using c20))
            (try (have c20b2 : (t694 == t698) = false := by simpa using c20))
            (try (have c20b3 : ¬ (t694 = t698) := by simpa using c20))
            clear c20
            exact absurd ((Option.some.inj H).trans hT.out) (by decide)
        · replace c19 := Bool.eq_false_iff.mpr c19
          subst c19
          have H1 : (if (t693.length : Int) = 3 then (laws_FnShareNet.l0 kj5 t693 (([(⟨3, 1, 7, 2⟩ : S32)] : List (S32))) 0) else ((laws_sumOf.f kj5 t693).bind fun t703 => (some (t703 == 0)))) = some r := by rw [if_neg (show ¬ (false = true) by decide)] at H; exact H
          clear H
          have H := H1
          clear H1
          by_cases c24 : (t693.length : Int) = 3
          · rw [if_pos c24] at H
            have c24b0 : ((t693.length : Int) == 3) = true := beq_iff_eq.mpr c24
            have c24b1 : ((t693.length : Int) != 3) = false := bne_eq_false_iff_eq.mpr c24
            clear c24
            obtain ⟨y704, hy704⟩ : ∃ y_ : List (S32), y_ = (([(⟨3, 1, 7, 2⟩ : S32)] : List (S32))) := ⟨_, rfl⟩
            replace H : (laws_FnShareNet.l0 kj5 t693 y704 0) = some r := by first | (rw [hy704]; with_reducible exact H) | (have H2_ := (Option.bind_some _ _).symm.trans H; rw [hy704]; with_reducible exact H2_) | (have H2_ := (Option.bind_some _ _).symm.trans H; with_reducible exact H2_) | with_reducible exact H | (rw [hy704]; exact H) | exact H
            have Ny704 := Aside0.mk hy704
            clear hy704
            have H' := Aside0.mk H
            clear H
            obtain ⟨Ao25, co25, eo25⟩ := Kd.R_slice HO_5.out
            subst eo25
            go_wp2_with (first | ((with_reducible refine gate_dst (N := 63) rfl ?_); refine Kd.R_lit k32 _ 32 ?hg (N := 63) ?hd (xs := ([(⟨3, 1, 7, 2⟩ : S32)] : List (S32))) (inner := [.int .i64 3, .int .i64 1, .int .i64 7, .int .i64 2]) (ok := fun _ => True) (okp := fun _ => True) ?hr ?hp (fun _ hk => hk) trivial (Below.refl _ _) (Nat.le_refl _) (by simp) ?_; (case hd => rfl); (case hg => rfl); (case hr => exact qq17); (case hp => exact (Reps.c4 (show Kd.M k32 _ _ _ (⟨3, 1, 7, 2⟩ : S32) [.int .i64 3, .int .i64 1, .int .i64 7, .int .i64 2] from (k32_mkM _ _ _ (⟨3, 1, 7, 2⟩ : S32) )) (Reps.none _ _))); intro v705 w26 ho27 hb hg_ hnew_; clear hg_ hnew_; (first | rw [← Ny704.out] at ho27 | (simp only [Int.reduceToNat] at ho27; rw [← Ny704.out] at ho27)); have n0_ := Aside0.mk (Kd.R_below (qq2 HO_5.out) hb); have n1_ := Aside0.mk (Kd.R_below (qq2 HO_7.out) hb); have n2_ := Aside0.mk (Kd.R_lower ho27 (below_size qq1)); have n3_ := Aside0.mk (below_step qq1 hb); clear HO_5; clear HO_7; clear HB; have HO_5 := n0_; have HO_7 := n1_; have HO706 := n2_; have HB := n3_; clear n0_ n1_ n2_ n3_; clear hb ho27))
            go_loopg [9, 10] kj5 (fun kq v9 v10 w' => ∃ (x9_2 : List (S32)) (x10_2 : Int), v10 = .int .i64 x10_2 ∧ Aside0 (laws_FnShareNet.l0 kq t693 x9_2 x10_2 = some r) ∧ Aside0 (kq ≤ kj5) ∧ Aside0 (Kd.R (Kd.int .i64) 3 w' w.heap.size (fun _ => True) (.slice Ao25 t693.length co25) t693) ∧ Aside0 (Kd.R k32 32 w' w.heap.size (fun _ => True) v9 x9_2) ∧ Aside0 (Below w.heap.size w w'))
            case atStart => exact ⟨(y704), (0), qq9, H', ⟨Nat.le_refl _⟩, ⟨qq21 HO_5.out⟩, ⟨qq2 HO706.out⟩, ⟨qq1⟩⟩
            case round =>
              clear H'
              try clear c1
              try clear c2
              try clear c2b0
              try clear c2b1
              try clear p2
              try clear c4
              try clear c5
              try clear c12
              try clear c12b0
              try clear c12b1
              try clear c12b2
              try clear c14
              try clear c19
              try clear c20
              try clear c20b0
              try clear c20b1
              try clear c20b2
              try clear c21
              try clear c24
              try clear c24b0
              try clear c24b1
              try clear p2
              obtain ⟨x9_2, x10_2, rfl, HA, HK2, HO_5, HO_9, HB⟩ := hrel
              cases gk with
              | zero => exact absurd HA.out (by simp [laws_FnShareNet.l0])
              | succ k2 =>
                have H := HA.out
                clear HA
                simp only [laws_FnShareNet.l0] at H
                by_cases c28 : x10_2 < 3
                · rw [if_pos c28] at H
                  have c28b0 : decide (x10_2 < 3) = true := decide_eq_true c28
                  clear c28
                  by_cases c29 : 0 ≤ x10_2
                  · rw [if_pos c29] at H
                    have c29b0 : decide (0 ≤ x10_2) = true := decide_eq_true c29
                    clear c29
                    by_cases c30 : x10_2 < (t693.length : Int)
                    · rw [if_pos c30] at H
                      have c30b0 : decide (x10_2 < (t693.length : Int)) = true := decide_eq_true c30
                      clear c30
                      by_cases c31 : x9_2.length < 4398046511104
                      · rw [if_pos c31] at H
                        have LMc31 := Aside0.mk c31
                        clear c31
                        obtain ⟨y708, hy708⟩ : ∃ y_ : List (S32), y_ = (x9_2 ++ [(⟨x10_2, Int.tmod (wrap64 (x10_2 + 1)) 3, rd t693 x10_2, 1⟩ : S32)]) := ⟨_, rfl⟩
                        replace H : (laws_FnShareNet.l0 k2 t693 y708 (wrap64 (x10_2 + 1))) = some r := by first | (rw [hy708]; with_reducible exact H) | (have H2_ := (Option.bind_some _ _).symm.trans H; rw [hy708]; with_reducible exact H2_) | (have H2_ := (Option.bind_some _ _).symm.trans H; with_reducible exact H2_) | with_reducible exact H | (rw [hy708]; exact H) | exact H
                        have Ny708 := Aside0.mk hy708
                        clear hy708
                        have H' := Aside0.mk H
                        clear H
                        have p707 : 0 ≤ (x10_2 : Int) := of_decide_eq_true qq3
                        have q707 : x10_2 < (t693.length : Int) := of_decide_eq_true qq3
                        obtain ⟨ad707, e707, hx707_0⟩ := Kd.at_int (Kd.R_reads' HO_5.out).2.2 x10_2 p707 q707
                        cases e707
                        replace p707 := eq_true p707
                        replace q707 := eq_true q707
                        go_wp2_with (first | ((with_reducible refine gate_builtin (b := .append) (xs := #[.tmp 68, .tmp 78]) rfl ?_); at_builtin; refine Kd.R_append k32 (w0 := w) w.heap.size rfl (.tmp 68) (.tmp 78) 23 32 (.agg #[(.int .i64 0), (.int .i64 0), (.int .i64 0), (.int .i64 0)]) 32 rfl Try.underlying23 info32 rfl (by decide) (by omega) u9 x9_2 (⟨x10_2, Int.tmod (wrap64 (x10_2 + 1)) 3, rd t693 x10_2, 1⟩ : S32) [.int .i64 x10_2, .int .i64 (Int.tmod (wrap64 (x10_2 + 1)) 3), .int .i64 (rd t693 x10_2), .int .i64 1] (fun _ => True) (fun _ => False) rfl rfl ?aP (fun _ hk => hk.elim) ?aF ?aO ?aB ?aS ?aL ?_; (case aP => exact k32_mkM _ _ _ (⟨x10_2, Int.tmod (wrap64 (x10_2 + 1)) 3, rd t693 x10_2, 1⟩ : S32)); (case aB => exact qq1); (case aF => exact (fun _ _ => trivial)); (case aO => exact (qq2 HO_9.out)); (case aS => exact (below_size qq1)); (case aL => have := LMc31.out; omega); intro v709 w32 ho hb hg hat; rw [← Ny708.out] at ho; have n0_ := Aside0.mk (Kd.R_over' (qq2 HO_5.out) (Kd.R_typed (qq2 HO_9.out)) (by decide) hg); have n1_ := Aside0.mk (hb); have n2_ := Aside0.mk (ho); clear HO_5; clear HB; clear HO_9; have HO_5 := n0_; have HB := n1_; have HO710 := n2_; clear n0_ n1_ n2_; clear ho hb hg hat))
                        go_roundg k2
                        case measure => have := HJ5.out; have := HK2.out; omega
                        case rel => exact ⟨(y708), (wrap64 (x10_2 + 1)), qq9, H', ⟨qq68 HJ5.out HK2.out⟩, ⟨qq2 HO_5.out⟩, ⟨qq2 HO710.out⟩, ⟨qq1⟩⟩
                      · rw [if_neg c31] at H
                        exact absurd H (by simp)
                    · rw [if_neg c30] at H
                      exact absurd H (by simp)
                  · rw [if_neg c29] at H
                    exact absurd H (by simp)
                · rw [if_neg c28] at H
                  have c28b0 : decide (x10_2 < 3) = false := decide_eq_false c28
                  clear c28
                  replace H := Option.bind_eq_some_iff.mp H
                  obtain ⟨t711, A330, H⟩ := H
                  replace H : (if t711 = true then ((impl_TreeFirst.f k2 4 x9_2).bind fun bt715 => ((impl_TreeHeights.f k2 4 x9_2 bt715.1).bind fun bt719 => (if bt715.2 = true then (if bt719.2 = true then ((impl_LoopCloses.f k2 4 x9_2).bind fun t723 => (if t723 = true then ((impl_NetFits.f k2 4 x9_2 bt719.1).bind fun t724 => (if t724 = true then (if 1 < (bt719.1.length : Int) then (if 3 < (bt719.1.length : Int) then (some ((wrap64 ((rd bt719.1 1) - (rd bt719.1 3))) == 7)) else (none)) else (none)) else (some false))) else (some false))) else (some false)) else (some false)))) else (if 0 < (t693.length : Int) then (if 1 < (t693.length : Int) then (if 2 < (t693.length : Int) then (some ((wrap64 ((wrap64 ((rd t693 0) + (rd t693 1))) + (rd t693 2))) == 0)) else (none)) else (none)) else (none))) = some r := H
                  have A33 := Aside0.mk A330
                  clear A330
                  by_cases c34 : t711 = true
                  · subst c34
                    have H1 : ((impl_TreeFirst.f k2 4 x9_2).bind fun bt715 => ((impl_TreeHeights.f k2 4 x9_2 bt715.1).bind fun bt719 => (if bt715.2 = true then (if bt719.2 = true then ((impl_LoopCloses.f k2 4 x9_2).bind fun t723 => (if t723 = true then ((impl_NetFits.f k2 4 x9_2 bt719.1).bind fun t724 => (if t724 = true then (if 1 < (bt719.1.length : Int) then (if 3 < (bt719.1.length : Int) then (some ((wrap64 ((rd bt719.1 1) - (rd bt719.1 3))) == 7)) else (none)) else (none)) else (some false))) else (some false))) else (some false)) else (some false)))) = some r := by rw [if_pos rfl] at H; exact H
                    clear H
                    have H := H1
                    clear H1
                    replace H := Option.bind_eq_some_iff.mp H
                    obtain ⟨⟨t715, t716⟩, A350, H⟩ := H
                    replace H : ((impl_TreeHeights.f k2 4 x9_2 t715).bind fun bt719 => (if t716 = true then (if bt719.2 = true then ((impl_LoopCloses.f k2 4 x9_2).bind fun t723 => (if t723 = true then ((impl_NetFits.f k2 4 x9_2 bt719.1).bind fun t724 => (if t724 = true then (if 1 < (bt719.1.length : Int) then (if 3 < (bt719.1.length : Int) then (some ((wrap64 ((rd bt719.1 1) - (rd bt719.1 3))) == 7)) else (none)) else (none)) else (some false))) else (some false))) else (some false)) else (some false))) = some r := H
                    have A35 := Aside0.mk A350
                    clear A350
                    replace H := Option.bind_eq_some_iff.mp H
                    obtain ⟨⟨t719, t720⟩, A360, H⟩ := H
                    replace H : (if t716 = true then (if t720 = true then ((impl_LoopCloses.f k2 4 x9_2).bind fun t723 => (if t723 = true then ((impl_NetFits.f k2 4 x9_2 t719).bind fun t724 => (if t724 = true then (if 1 < (t719.length : Int) then (if 3 < (t719.length : Int) then (some ((wrap64 ((rd t719 1) - (rd t719 3))) == 7)) else (none)) else (none)) else (some false))) else (some false))) else (some false)) else (some false)) = some r := H
                    have A36 := Aside0.mk A360
                    clear A360
                    by_cases c37 : t716 = true
                    · subst c37
                      have H1 : (if t720 = true then ((impl_LoopCloses.f k2 4 x9_2).bind fun t723 => (if t723 = true then ((impl_NetFits.f k2 4 x9_2 t719).bind fun t724 => (if t724 = true then (if 1 < (t719.length : Int) then (if 3 < (t719.length : Int) then (some ((wrap64 ((rd t719 1) - (rd t719 3))) == 7)) else (none)) else (none)) else (some false))) else (some false))) else (some false)) = some r := by rw [if_pos rfl] at H; exact H
                      clear H
                      have H := H1
                      clear H1
                      by_cases c38 : t720 = true
                      · subst c38
                        have H1 : ((impl_LoopCloses.f k2 4 x9_2).bind fun t723 => (if t723 = true then ((impl_NetFits.f k2 4 x9_2 t719).bind fun t724 => (if t724 = true then (if 1 < (t719.length : Int) then (if 3 < (t719.length : Int) then (some ((wrap64 ((rd t719 1) - (rd t719 3))) == 7)) else (none)) else (none)) else (some false))) else (some false))) = some r := by rw [if_pos rfl] at H; exact H
                        clear H
                        have H := H1
                        clear H1
                        replace H := Option.bind_eq_some_iff.mp H
                        obtain ⟨t723, A390, H⟩ := H
                        replace H : (if t723 = true then ((impl_NetFits.f k2 4 x9_2 t719).bind fun t724 => (if t724 = true then (if 1 < (t719.length : Int) then (if 3 < (t719.length : Int) then (some ((wrap64 ((rd t719 1) - (rd t719 3))) == 7)) else (none)) else (none)) else (some false))) else (some false)) = some r := H
                        have A39 := Aside0.mk A390
                        clear A390
                        by_cases c40 : t723 = true
                        · subst c40
                          have H1 : ((impl_NetFits.f k2 4 x9_2 t719).bind fun t724 => (if t724 = true then (if 1 < (t719.length : Int) then (if 3 < (t719.length : Int) then (some ((wrap64 ((rd t719 1) - (rd t719 3))) == 7)) else (none)) else (none)) else (some false))) = some r := by rw [if_pos rfl] at H; exact H
                          clear H
                          have H := H1
                          clear H1
                          replace H := Option.bind_eq_some_iff.mp H
                          obtain ⟨t724, A410, H⟩ := H
                          replace H : (if t724 = true then (if 1 < (t719.length : Int) then (if 3 < (t719.length : Int) then (some ((wrap64 ((rd t719 1) - (rd t719 3))) == 7)) else (none)) else (none)) else (some false)) = some r := H
                          have A41 := Aside0.mk A410
                          clear A410
                          by_cases c42 : t724 = true
                          · subst c42
                            have H1 : (if 1 < (t719.length : Int) then (if 3 < (t719.length : Int) then (some ((wrap64 ((rd t719 1) - (rd t719 3))) == 7)) else (none)) else (none)) = some r := by rw [if_pos rfl] at H; exact H
                            clear H
                            have H := H1
                            clear H1
                            by_cases c43 : 1 < (t719.length : Int)
                            · rw [if_pos c43] at H
                              have c43b0 : decide (1 < (t719.length : Int)) = true := decide_eq_true c43
                              have c43b1 : decide (1 < t719.length) = true := decide_eq_true (by omega)
                              clear c43
                              by_cases c44 : 3 < (t719.length : Int)
                              · rw [if_pos c44] at H
                                have c44b0 : decide (3 < (t719.length : Int)) = true := decide_eq_true c44
                                have c44b1 : decide (3 < t719.length) = true := decide_eq_true (by omega)
                                clear c44
                                obtain rfl := Option.some.inj H
                                obtain ⟨Ao45, co45, eo45⟩ := Kd.R_slice HO_9.out
                                subst eo45
                                try go_wp2_with (first | ((with_reducible refine gate_callee (f := 23) rfl ?_); refine goesL_ (some 81) rfl rfl Try.func23 (by kernel_rfl) rfl #[.int .i64 4, .slice Ao45 x9_2.length co45] rfl qq5 ?_; (with_reducible refine (impl_NetValid.calls k2 4 _ _ x9_2 true _ ?side1 ?side2 A33.out).mono ?_); (case side1 => exact qq14 HO_9.out); (case side2 => exact qq47 HO_9.out); rintro e w46 ⟨rfl, hb⟩; refine ⟨_, rfl, ?_⟩; have n0_ := Aside0.mk (Kd.R_below (qq2 HO_5.out) hb); have n1_ := Aside0.mk (Kd.R_below (qq2 HO_9.out) hb); have n2_ := Aside0.mk (below_step qq1 hb); clear HO_5; clear HO_9; clear HB; have HO_5 := n0_; have HO_9 := n1_; have HB := n2_; clear n0_ n1_ n2_; (try clear hb); (try clear hb2); (try clear hk); (try clear hi)) | ((with_reducible refine gate_callee (f := 10) rfl ?_); refine goesL_ (some 97) rfl rfl Try.func10 (by kernel_rfl) rfl #[.int .i64 4, .slice Ao45 x9_2.length co45] rfl qq5 ?_; (with_reducible refine (impl_TreeFirst.calls k2 4 _ _ x9_2 t715 true _ ?side1 ?side2 A35.out).mono ?_); (case side1 => exact qq14 HO_9.out); (case side2 => exact qq47 HO_9.out); rintro e w47 ⟨v717, rfl, ho0, hb⟩; refine ⟨_, rfl, ?_⟩; have n0_ := Aside0.mk (Kd.R_elder' (qq2 HO_5.out) (Kd.R_base ho0) hb); have n1_ := Aside0.mk (Kd.R_below (qq2 HO_9.out) hb); have n2_ := Aside0.mk (Kd.R_lower (Kd.R_new' ho0 (Kd.R_lt (qq2 HO_5.out))) (below_size qq1)); have n3_ := Aside0.mk (below_step qq1 hb); clear HO_5; clear HO_9; clear HB; have HO_5 := n0_; have HO_9 := n1_; have HO718 := n2_; have HB := n3_; clear n0_ n1_ n2_ n3_; (try clear hb); (try clear hb2); (try clear hk); (try clear hi); (try clear ho0); obtain ⟨Ao48, co48, eo48⟩ := Kd.R_slice HO718.out; subst eo48) | ((with_reducible refine gate_callee (f := 11) rfl ?_); refine goesL_ (some 103) rfl rfl Try.func11 (by kernel_rfl) rfl #[.int .i64 4, .slice Ao45 x9_2.length co45, .slice Ao48 t715.length co48] rfl qq5 ?_; (with_reducible refine (impl_TreeHeights.calls k2 4 _ _ x9_2 _ _ t715 t719 true _ ?side1 ?side2 ?side3 ?side4 A36.out).mono ?_); (case side1 => exact qq14 HO_9.out); (case side2 => exact qq47 HO_9.out); (case side3 => exact qq14 HO718.out); (case side4 => exact qq47 HO718.out); rintro e w49 ⟨v721, rfl, ho0, hb⟩; refine ⟨_, rfl, ?_⟩; have n0_ := Aside0.mk (Kd.R_elder' (qq2 HO_5.out) (Kd.R_base ho0) hb); have n1_ := Aside0.mk (Kd.R_below (qq2 HO_9.out) hb); have n2_ := Aside0.mk (Kd.R_elder' (qq2 HO718.out) (Kd.R_base ho0) hb); have n3_ := Aside0.mk (Kd.R_lower (Kd.R_new' (Kd.R_new' ho0 (Kd.R_lt (qq2 HO_5.out))) (Kd.R_lt (qq2 HO718.out))) (below_size qq1)); have n4_ := Aside0.mk (below_step qq1 hb); clear HO_5; clear HO_9; clear HO718; clear HB; have HO_5 := n0_; have HO_9 := n1_; have HO718 := n2_; have HO722 := n3_; have HB := n4_; clear n0_ n1_ n2_ n3_ n4_; (try clear hb); (try clear hb2); (try clear hk); (try clear hi); (try clear ho0)))
                                have n0_ := Aside0.mk (Kd.R_drew HO_5.out)
                                have n1_ := Aside0.mk (Kd.R_drew HO_9.out)
                                have n2_ := Aside0.mk (Kd.R_drew HO718.out)
                                have n3_ := Aside0.mk (Kd.R_drew HO722.out)
                                have n4_ := Aside0.mk (below_drew1 HB.out)
                                clear HO_5
                                clear HO_9
                                clear HO718
                                clear HO722
                                clear HB
                                have HO_5 := n0_
                                have HO_9 := n1_
                                have HO718 := n2_
                                have HO722 := n3_
                                have HB := n4_
                                clear n0_ n1_ n2_ n3_ n4_
                                have p725 : 0 ≤ (1 : Int) := (by omega)
                                have q725 : 1 < (t719.length : Int) := of_decide_eq_true qq3
                                obtain ⟨Ao52, co52, eoX_⟩ := Kd.R_slice HO722.out
                                subst eoX_
                                obtain ⟨ad725, e725, hx725_0⟩ := Kd.at_int (Kd.R_reads' HO722.out).2.2 1 p725 q725
                                cases e725
                                (try simp only [show (1 : Int).toNat = 1 from rfl, Nat.reduceMul, Nat.reduceEqDiff, Go.Addr.add, ↓reduceIte] at hx725_0)
                                have qi725 : (1 < t719.length) = True := eq_true (by omega)
                                (try rw [show ((1 : Int)).toNat = 1 from rfl] at hx725_0)
                                replace p725 := eq_true p725
                                replace q725 := eq_true q725
                                have p726 : 0 ≤ (3 : Int) := (by omega)
                                have q726 : 3 < (t719.length : Int) := of_decide_eq_true qq3
                                obtain ⟨ad726, e726, hx726_0⟩ := Kd.at_int (Kd.R_reads' HO722.out).2.2 3 p726 q726
                                obtain rfl : ad725 = ad726 := (by injection e726)
                                (try simp only [show (3 : Int).toNat = 3 from rfl, Nat.reduceMul, Nat.reduceEqDiff, Go.Addr.add, ↓reduceIte] at hx726_0)
                                have qi726 : (3 < t719.length) = True := eq_true (by omega)
                                (try rw [show ((3 : Int)).toNat = 3 from rfl] at hx726_0)
                                replace p726 := eq_true p726
                                replace q726 := eq_true q726
                                refine start_ (n := 24) (S := fun w' => w'.cell? ⟨ad725.block, ad725.off + 1, none⟩ = some (.int .i64 (rd t719 1)) ∧ w'.cell? ⟨ad725.block, ad725.off + 3, none⟩ = some (.int .i64 (rd t719 3))) (ds := []) #[false, false, false, false, false, false, false, false, false, false, false, false, false, false, false, false, false, false, false, false, false, false, false, false] (by kernel_rfl) rfl rfl ⟨hx725_0, hx726_0⟩ (fun hHeld => ?_); refine with_tabW laws_FnShareNet.tab19 laws_FnShareNet.bits19 (fun HT_ HW_ => ?_)
                                generalize w49.drew = w50 at HO_5 HO_9 HO718 HO722 HB hx725_0 hx726_0 hHeld ⊢
                                refine pure_ (i := 0) (N := some 106) #[true, false, false, false, false, false, false, false, false, false, false, false, false, false, false, false, false, false, false, false, false, false, false, false] rfl rfl (any_of HT_.out (by kernel_rfl)) (fun _ _ _ h => h) (Or.inl ⟨by rfl, pA_⟩) pB_ ?_
                                refine pure_ (i := 1) (N := some 107) #[true, true, false, false, false, false, false, false, false, false, false, false, false, false, false, false, false, false, false, false, false, false, false, false] rfl rfl (any_of HT_.out (by kernel_rfl)) (fun _ _ _ h => h) (Or.inl ⟨by rfl, pA_⟩) pB_ ?_
                                refine pure_ (i := 2) (N := some 108) #[true, true, true, false, false, false, false, false, false, false, false, false, false, false, false, false, false, false, false, false, false, false, false, false] rfl rfl (any_of HT_.out (by kernel_rfl)) (fun _ _ _ h => h) (Or.inl ⟨by rfl, pA_⟩) pB_ ?_
                                refine pure_ (i := 3) (N := some 109) #[true, true, true, true, false, false, false, false, false, false, false, false, false, false, false, false, false, false, false, false, false, false, false, false] rfl rfl (any_of HT_.out (by kernel_rfl)) (fun _ _ _ h => h) (Or.inl ⟨by rfl, pA_⟩) pB_ ?_
                                refine pure_ (i := 4) (N := some 110) #[true, true, true, true, true, false, false, false, false, false, false, false, false, false, false, false, false, false, false, false, false, false, false, false] rfl rfl (any_of HT_.out (by kernel_rfl)) (fun _ _ _ h => h) (Or.inl ⟨by rfl, pA_⟩) pB_ ?_
                                refine pure_ (i := 5) (N := some 111) #[true, true, true, true, true, true, false, false, false, false, false, false, false, false, false, false, false, false, false, false, false, false, false, false] rfl rfl (any_of HT_.out (by kernel_rfl)) (fun _ _ _ h => h) (Or.inl ⟨by rfl, pA_⟩) pB_ ?_
                                refine one_ (i := 6) (N := some 112) #[true, true, true, true, true, true, true, false, false, false, false, false, false, false, false, false, false, false, false, false, false, false, false, false] rfl rfl (one_of HT_.out (by kernel_rfl)) (by decide) (fun K hK => ?_)
                                refine goes_ Try.func8 (by kernel_rfl) rfl #[.int .i64 4, .slice Ao45 x9_2.length co45] (by rfl) rfl rfl qq5 ?_
                                with_reducible refine (impl_LoopCloses.calls k2 4 _ _ x9_2 true _ ?side1 ?side2 A39.out).mono ?_
                                (case side1 => exact qq14 HO_9.out)
                                (case side2 => exact qq47 HO_9.out)
                                rintro e w51 ⟨rfl, hb⟩
                                have HS0_ := (hb.cell (World.block_lt_of_cell? _ _ (hHeld.1))).trans (hHeld.1)
                                have HS1_ := (hb.cell (World.block_lt_of_cell? _ _ (hHeld.2))).trans (hHeld.2)
                                refine ⟨_, rfl, ?_⟩
                                have n0_ := Aside0.mk (Kd.R_below (qq2 HO_5.out) hb)
                                have n1_ := Aside0.mk (Kd.R_below (qq2 HO_9.out) hb)
                                have n2_ := Aside0.mk (Kd.R_below (qq2 HO718.out) hb)
                                have n3_ := Aside0.mk (Kd.R_below (qq2 HO722.out) hb)
                                have n4_ := Aside0.mk (below_step qq1 hb)
                                clear HO_5
                                clear HO_9
                                clear HO718
                                clear HO722
                                clear HB
                                have HO_5 := n0_
                                have HO_9 := n1_
                                have HO718 := n2_
                                have HO722 := n3_
                                have HB := n4_
                                clear n0_ n1_ n2_ n3_ n4_
                                (try clear hb)
                                (try clear hb2)
                                (try clear hk)
                                (try clear hi)
                                refine hK.out _ _ ⟨HS0_, HS1_⟩ (fun hHeld => ?_)
                                clear hK K
                                refine norm_ (a' := ?_) ?_ ?_
                                rotate_left
                                · show Act.put _ (some 112) _ = _
                                  simp only [Act.put, List.setIfInBounds_toArray, List.set_cons_zero, List.set_cons_succ, i64_w, i32_w]
                                  rfl
                                refine pure_ (i := 7) (N := some 113) #[true, true, true, true, true, true, true, true, false, false, false, false, false, false, false, false, false, false, false, false, false, false, false, false] rfl rfl (any_of HT_.out (by kernel_rfl)) (fun _ _ _ h => h) (Or.inl ⟨by rfl, pA_⟩) pB_ ?_
                                refine pure_ (i := 8) (N := some 114) #[true, true, true, true, true, true, true, true, true, false, false, false, false, false, false, false, false, false, false, false, false, false, false, false] rfl rfl (any_of HT_.out (by kernel_rfl)) (fun _ _ _ h => h) (Or.inl ⟨by rfl, pA_⟩) pB_ ?_
                                refine pure_ (i := 9) (N := some 115) #[true, true, true, true, true, true, true, true, true, true, false, false, false, false, false, false, false, false, false, false, false, false, false, false] rfl rfl (any_of HT_.out (by kernel_rfl)) (fun _ _ _ h => h) (Or.inl ⟨by rfl, pA_⟩) pB_ ?_
                                refine pure_ (i := 10) (N := some 116) #[true, true, true, true, true, true, true, true, true, true, true, false, false, false, false, false, false, false, false, false, false, false, false, false] rfl rfl (any_of HT_.out (by kernel_rfl)) (fun _ _ _ h => h) (Or.inl ⟨by rfl, pA_⟩) pB_ ?_
                                refine one_ (i := 11) (N := some 117) #[true, true, true, true, true, true, true, true, true, true, true, true, false, false, false, false, false, false, false, false, false, false, false, false] rfl rfl (one_of HT_.out (by kernel_rfl)) (by decide) (fun K hK => ?_)
                                refine goes_ Try.func12 (by kernel_rfl) rfl #[.int .i64 4, .slice Ao45 x9_2.length co45, .slice (some ad725) t719.length co52] (by rfl) rfl rfl qq5 ?_
                                with_reducible refine (impl_NetFits.calls k2 4 _ _ x9_2 _ _ t719 true _ ?side1 ?side2 ?side3 ?side4 A41.out).mono ?_
                                (case side1 => exact qq14 HO_9.out)
                                (case side2 => exact qq47 HO_9.out)
                                (case side3 => exact qq14 HO722.out)
                                (case side4 => exact qq47 HO722.out)
                                rintro e w53 ⟨rfl, hb⟩
                                have HS0_ := (hb.cell (World.block_lt_of_cell? _ _ (hHeld.1))).trans (hHeld.1)
                                have HS1_ := (hb.cell (World.block_lt_of_cell? _ _ (hHeld.2))).trans (hHeld.2)
                                refine ⟨_, rfl, ?_⟩
                                have n0_ := Aside0.mk (Kd.R_below (qq2 HO_5.out) hb)
                                have n1_ := Aside0.mk (Kd.R_below (qq2 HO_9.out) hb)
                                have n2_ := Aside0.mk (Kd.R_below (qq2 HO718.out) hb)
                                have n3_ := Aside0.mk (Kd.R_below (qq2 HO722.out) hb)
                                have n4_ := Aside0.mk (below_step qq1 hb)
                                clear HO_5
                                clear HO_9
                                clear HO718
                                clear HO722
                                clear HB
                                have HO_5 := n0_
                                have HO_9 := n1_
                                have HO718 := n2_
                                have HO722 := n3_
                                have HB := n4_
                                clear n0_ n1_ n2_ n3_ n4_
                                (try clear hb)
                                (try clear hb2)
                                (try clear hk)
                                (try clear hi)
                                refine hK.out _ _ ⟨HS0_, HS1_⟩ (fun hHeld => ?_)
                                clear hK K
                                refine norm_ (a' := ?_) ?_ ?_
                                rotate_left
                                · show Act.put _ (some 117) _ = _
                                  simp only [Act.put, List.setIfInBounds_toArray, List.set_cons_zero, List.set_cons_succ, i64_w, i32_w]
                                  rfl
                                refine pure_ (i := 12) (N := some 118) #[true, true, true, true, true, true, true, true, true, true, true, true, true, false, false, false, false, false, false, false, false, false, false, false] rfl rfl (any_of HT_.out (by kernel_rfl)) (fun _ _ _ h => h) (Or.inl ⟨by rfl, pA_⟩) pB_ ?_
                                refine pure_ (i := 13) (N := some 119) #[true, true, true, true, true, true, true, true, true, true, true, true, true, true, false, false, false, false, false, false, false, false, false, false] rfl rfl (any_of HT_.out (by kernel_rfl)) (fun _ _ _ h => h) (Or.inl ⟨by rfl, pA_⟩) pB_ ?_
                                refine pure_ (i := 14) (N := some 120) #[true, true, true, true, true, true, true, true, true, true, true, true, true, true, true, false, false, false, false, false, false, false, false, false] rfl rfl (any_of HT_.out (by kernel_rfl)) (fun _ _ _ h => h) (Or.inl ⟨by rfl, pA_⟩) pB_ ?_
                                refine pure_ (i := 15) (N := some 121) #[true, true, true, true, true, true, true, true, true, true, true, true, true, true, true, true, false, false, false, false, false, false, false, false] rfl rfl (any_of HT_.out (by kernel_rfl)) (fun _ _ _ h => h) (Or.inl ⟨by rfl, pA_⟩) pB_ ?_
                                refine pure_ (i := 17) (N := some 123) #[true, true, true, true, true, true, true, true, true, true, true, true, true, true, true, true, false, true, false, false, false, false, false, false] rfl rfl (any_of HT_.out (by kernel_rfl)) (fun _ _ _ h => h) (Or.inl ⟨by rfl, pA_⟩) pB_ ?_
                                refine pure_ (i := 18) (N := some 124) #[true, true, true, true, true, true, true, true, true, true, true, true, true, true, true, true, false, true, true, false, false, false, false, false] rfl rfl (any_of HT_.out (by kernel_rfl)) (fun _ _ _ h => h) (Or.inl ⟨by rfl, pA_⟩) pB_ ?_
                                refine take_ (i := 16) (N := some 122) (v := ?_) (a' := ?_) #[true, true, true, true, true, true, true, true, true, true, true, true, true, true, true, true, true, true, true, false, false, false, false, false] rfl rfl (take_ofW HT_.out HW_.out (by kernel_rfl)) (fun _ _ _ h => h) (Or.inl ⟨by rfl, ?_⟩) hHeld ?_ ?_
                                rotate_left
                                · rintro w' ⟨s0, s1⟩
                                  go_simp
                                  with_reducible rfl
                                rotate_left
                                · simp only [Act.put, List.setIfInBounds_toArray, List.set_cons_zero, List.set_cons_succ, i64_w, i32_w]
                                  rfl
                                refine take_ (i := 19) (N := some 125) (v := ?_) (a' := ?_) #[true, true, true, true, true, true, true, true, true, true, true, true, true, true, true, true, true, true, true, true, false, false, false, false] rfl rfl (take_ofW HT_.out HW_.out (by kernel_rfl)) (fun _ _ _ h => h) (Or.inl ⟨by rfl, ?_⟩) hHeld ?_ ?_
                                rotate_left
                                · rintro w' ⟨s0, s1⟩
                                  go_simp
                                  with_reducible rfl
                                rotate_left
                                · simp only [Act.put, List.setIfInBounds_toArray, List.set_cons_zero, List.set_cons_succ, i64_w, i32_w]
                                  rfl
                                refine pure_ (i := 20) (N := some 126) #[true, true, true, true, true, true, true, true, true, true, true, true, true, true, true, true, true, true, true, true, true, false, false, false] rfl rfl (any_of HT_.out (by kernel_rfl)) (fun _ _ _ h => h) (Or.inl ⟨by rfl, pA_⟩) pB_ ?_
                                refine pure_ (i := 21) (N := some 127) #[true, true, true, true, true, true, true, true, true, true, true, true, true, true, true, true, true, true, true, true, true, true, false, false] rfl rfl (any_of HT_.out (by kernel_rfl)) (fun _ _ _ h => h) (Or.inl ⟨by rfl, pA_⟩) pB_ ?_
                                refine pure_ (i := 22) (N := some 128) #[true, true, true, true, true, true, true, true, true, true, true, true, true, true, true, true, true, true, true, true, true, true, true, false] rfl rfl (any_of HT_.out (by kernel_rfl)) (fun _ _ _ h => h) (Or.inl ⟨by rfl, pA_⟩) pB_ ?_
                                refine pure_ (i := 23) (N := some 2) #[true, true, true, true, true, true, true, true, true, true, true, true, true, true, true, true, true, true, true, true, true, true, true, true] rfl rfl (any_of HT_.out (by kernel_rfl)) (fun _ _ _ h => h) (Or.inl ⟨by rfl, pA_⟩) pB_ ?_
                                refine done_ (done_of HT_.out (by kernel_rfl)) ?_
                                try go_wp2
                                go_ret
                                exact ⟨qq12, qq1⟩
                              · rw [if_neg c44] at H
                                exact absurd H (by simp)
                            · rw [if_neg c43] at H
                              exact absurd H (by simp)
                          · replace c42 := Bool.eq_false_iff.mpr c42
                            subst c42
                            have H1 : (some false) = some r := by rw [if_neg (show ¬ (false = true) by decide)] at H; exact H
                            clear H
                            have H := H1
                            clear H1
                            exact absurd ((Option.some.inj H).trans hT.out) (by decide)
                        · replace c40 := Bool.eq_false_iff.mpr c40
                          subst c40
                          have H1 : (some false) = some r := by rw [if_neg (show ¬ (false = true) by decide)] at H; exact H
                          clear H
                          have H := H1
                          clear H1
                          exact absurd ((Option.some.inj H).trans hT.out) (by decide)
                      · replace c38 := Bool.eq_false_iff.mpr c38
                        subst c38
                        have H1 : (some false) = some r := by rw [if_neg (show ¬ (false = true) by decide)] at H; exact H
                        clear H
                        have H := H1
                        clear H1
                        exact absurd ((Option.some.inj H).trans hT.out) (by decide)
                    · replace c37 := Bool.eq_false_iff.mpr c37
                      subst c37
                      have H1 : (some false) = some r := by rw [if_neg (show ¬ (false = true) by decide)] at H; exact H
                      clear H
                      have H := H1
                      clear H1
                      exact absurd ((Option.some.inj H).trans hT.out) (by decide)
                  · replace c34 := Bool.eq_false_iff.mpr c34
                    subst c34
                    have H1 : (if 0 < (t693.length : Int) then (if 1 < (t693.length : Int) then (if 2 < (t693.length : Int) then (some ((wrap64 ((wrap64 ((rd t693 0) + (rd t693 1))) + (rd t693 2))) == 0)) else (none)) else (none)) else (none)) = some r := by rw [if_neg (show ¬ (false = true) by decide)] at H; exact H
                    clear H
                    have H := H1
                    clear H1
                    by_cases c54 : 0 < (t693.length : Int)
                    · rw [if_pos c54] at H
                      have c54b0 : decide (0 < (t693.length : Int)) = true := decide_eq_true c54
                      have c54b1 : decide (0 < t693.length) = true := decide_eq_true (by omega)
                      clear c54
                      by_cases c55 : 1 < (t693.length : Int)
                      · rw [if_pos c55] at H
                        have c55b0 : decide (1 < (t693.length : Int)) = true := decide_eq_true c55
                        have c55b1 : decide (1 < t693.length) = true := decide_eq_true (by omega)
                        clear c55
                        by_cases c56 : 2 < (t693.length : Int)
                        · rw [if_pos c56] at H
                          have c56b0 : decide (2 < (t693.length : Int)) = true := decide_eq_true c56
                          have c56b1 : decide (2 < t693.length) = true := decide_eq_true (by omega)
                          clear c56
                          obtain rfl := Option.some.inj H
                          obtain ⟨Ao57, co57, eo57⟩ := Kd.R_slice HO_9.out
                          subst eo57
                          try go_wp2_with (first | ((with_reducible refine gate_callee (f := 23) rfl ?_); refine goesL_ (some 81) rfl rfl Try.func23 (by kernel_rfl) rfl #[.int .i64 4, .slice Ao57 x9_2.length co57] rfl qq5 ?_; (with_reducible refine (impl_NetValid.calls k2 4 _ _ x9_2 false _ ?side1 ?side2 A33.out).mono ?_); (case side1 => exact qq14 HO_9.out); (case side2 => exact qq47 HO_9.out); rintro e w58 ⟨rfl, hb⟩; refine ⟨_, rfl, ?_⟩; have n0_ := Aside0.mk (Kd.R_below (qq2 HO_5.out) hb); have n1_ := Aside0.mk (Kd.R_below (qq2 HO_9.out) hb); have n2_ := Aside0.mk (below_step qq1 hb); clear HO_5; clear HO_9; clear HB; have HO_5 := n0_; have HO_9 := n1_; have HB := n2_; clear n0_ n1_ n2_; (try clear hb); (try clear hb2); (try clear hk); (try clear hi)))
                          have n0_ := Aside0.mk (Kd.R_drew HO_5.out)
                          have n1_ := Aside0.mk (Kd.R_drew HO_9.out)
                          have n2_ := Aside0.mk (below_drew1 HB.out)
                          clear HO_5
                          clear HO_9
                          clear HB
                          have HO_5 := n0_
                          have HO_9 := n1_
                          have HB := n2_
                          clear n0_ n1_ n2_
                          have p712 : 0 ≤ (0 : Int) := (by omega)
                          have q712 : 0 < (t693.length : Int) := of_decide_eq_true qq3
                          obtain ⟨ad712, e712, hx712_0⟩ := Kd.at_int (Kd.R_reads' HO_5.out).2.2 0 p712 q712
                          cases e712
                          have qi712 : (0 < t693.length) = True := eq_true (by omega)
                          (try rw [show ((0 : Int)).toNat = 0 from rfl] at hx712_0)
                          (try rw [Addr.add_zero'] at hx712_0)
                          replace p712 := eq_true p712
                          replace q712 := eq_true q712
                          have p713 : 0 ≤ (1 : Int) := (by omega)
                          have q713 : 1 < (t693.length : Int) := of_decide_eq_true qq3
                          obtain ⟨ad713, e713, hx713_0⟩ := Kd.at_int (Kd.R_reads' HO_5.out).2.2 1 p713 q713
                          obtain rfl : ad712 = ad713 := (by injection e713)
                          (try simp only [show (1 : Int).toNat = 1 from rfl, Nat.reduceMul, Nat.reduceEqDiff, Go.Addr.add, ↓reduceIte] at hx713_0)
                          have qi713 : (1 < t693.length) = True := eq_true (by omega)
                          (try rw [show ((1 : Int)).toNat = 1 from rfl] at hx713_0)
                          replace p713 := eq_true p713
                          replace q713 := eq_true q713
                          have p714 : 0 ≤ (2 : Int) := (by omega)
                          have q714 : 2 < (t693.length : Int) := of_decide_eq_true qq3
                          obtain ⟨ad714, e714, hx714_0⟩ := Kd.at_int (Kd.R_reads' HO_5.out).2.2 2 p714 q714
                          obtain rfl : ad712 = ad714 := (by injection e714)
                          (try simp only [show (2 : Int).toNat = 2 from rfl, Nat.reduceMul, Nat.reduceEqDiff, Go.Addr.add, ↓reduceIte] at hx714_0)
                          have qi714 : (2 < t693.length) = True := eq_true (by omega)
                          (try rw [show ((2 : Int)).toNat = 2 from rfl] at hx714_0)
                          replace p714 := eq_true p714
                          replace q714 := eq_true q714
                          refine start_ (n := 13) (S := fun w' => w'.cell? ad712 = some (.int .i64 (rd t693 0)) ∧ w'.cell? ⟨ad712.block, ad712.off + 1, none⟩ = some (.int .i64 (rd t693 1)) ∧ w'.cell? ⟨ad712.block, ad712.off + 2, none⟩ = some (.int .i64 (rd t693 2))) (ds := []) #[false, false, false, false, false, false, false, false, false, false, false, false, false] (by kernel_rfl) rfl rfl ⟨hx712_0, hx713_0, hx714_0⟩ (fun hHeld => ?_); refine with_tabW laws_FnShareNet.tab16 laws_FnShareNet.bits16 (fun HT_ HW_ => ?_)
                          generalize w58.drew = w59 at HO_5 HO_9 HB hx712_0 hx713_0 hx714_0 hHeld ⊢
                          refine pure_ (i := 0) (N := some 83) #[true, false, false, false, false, false, false, false, false, false, false, false, false] rfl rfl (any_of HT_.out (by kernel_rfl)) (fun _ _ _ h => h) (Or.inl ⟨by rfl, pA_⟩) pB_ ?_
                          refine pure_ (i := 1) (N := some 84) #[true, true, false, false, false, false, false, false, false, false, false, false, false] rfl rfl (any_of HT_.out (by kernel_rfl)) (fun _ _ _ h => h) (Or.inl ⟨by rfl, pA_⟩) pB_ ?_
                          refine pure_ (i := 3) (N := some 86) #[true, true, false, true, false, false, false, false, false, false, false, false, false] rfl rfl (any_of HT_.out (by kernel_rfl)) (fun _ _ _ h => h) (Or.inl ⟨by rfl, pA_⟩) pB_ ?_
                          refine pure_ (i := 4) (N := some 87) #[true, true, false, true, true, false, false, false, false, false, false, false, false] rfl rfl (any_of HT_.out (by kernel_rfl)) (fun _ _ _ h => h) (Or.inl ⟨by rfl, pA_⟩) pB_ ?_
                          refine pure_ (i := 7) (N := some 90) #[true, true, false, true, true, false, false, true, false, false, false, false, false] rfl rfl (any_of HT_.out (by kernel_rfl)) (fun _ _ _ h => h) (Or.inl ⟨by rfl, pA_⟩) pB_ ?_
                          refine pure_ (i := 8) (N := some 91) #[true, true, false, true, true, false, false, true, true, false, false, false, false] rfl rfl (any_of HT_.out (by kernel_rfl)) (fun _ _ _ h => h) (Or.inl ⟨by rfl, pA_⟩) pB_ ?_
                          refine take_ (i := 2) (N := some 85) (v := ?_) (a' := ?_) #[true, true, true, true, true, false, false, true, true, false, false, false, false] rfl rfl (take_ofW HT_.out HW_.out (by kernel_rfl)) (fun _ _ _ h => h) (Or.inl ⟨by rfl, ?_⟩) hHeld ?_ ?_
                          rotate_left
                          · rintro w' ⟨s0, s1, s2⟩
                            go_simp
                            with_reducible rfl
                          rotate_left
                          · simp only [Act.put, List.setIfInBounds_toArray, List.set_cons_zero, List.set_cons_succ, i64_w, i32_w]
                            rfl
                          refine take_ (i := 5) (N := some 88) (v := ?_) (a' := ?_) #[true, true, true, true, true, true, false, true, true, false, false, false, false] rfl rfl (take_ofW HT_.out HW_.out (by kernel_rfl)) (fun _ _ _ h => h) (Or.inl ⟨by rfl, ?_⟩) hHeld ?_ ?_
                          rotate_left
                          · rintro w' ⟨s0, s1, s2⟩
                            go_simp
                            with_reducible rfl
                          rotate_left
                          · simp only [Act.put, List.setIfInBounds_toArray, List.set_cons_zero, List.set_cons_succ, i64_w, i32_w]
                            rfl
                          refine pure_ (i := 6) (N := some 89) #[true, true, true, true, true, true, true, true, true, false, false, false, false] rfl rfl (any_of HT_.out (by kernel_rfl)) (fun _ _ _ h => h) (Or.inl ⟨by rfl, pA_⟩) pB_ ?_
                          refine take_ (i := 9) (N := some 92) (v := ?_) (a' := ?_) #[true, true, true, true, true, true, true, true, true, true, false, false, false] rfl rfl (take_ofW HT_.out HW_.out (by kernel_rfl)) (fun _ _ _ h => h) (Or.inl ⟨by rfl, ?_⟩) hHeld ?_ ?_
                          rotate_left
                          · rintro w' ⟨s0, s1, s2⟩
                            go_simp
                            with_reducible rfl
                          rotate_left
                          · simp only [Act.put, List.setIfInBounds_toArray, List.set_cons_zero, List.set_cons_succ, i64_w, i32_w]
                            rfl
                          refine pure_ (i := 10) (N := some 93) #[true, true, true, true, true, true, true, true, true, true, true, false, false] rfl rfl (any_of HT_.out (by kernel_rfl)) (fun _ _ _ h => h) (Or.inl ⟨by rfl, pA_⟩) pB_ ?_
                          refine pure_ (i := 11) (N := some 94) #[true, true, true, true, true, true, true, true, true, true, true, true, false] rfl rfl (any_of HT_.out (by kernel_rfl)) (fun _ _ _ h => h) (Or.inl ⟨by rfl, pA_⟩) pB_ ?_
                          refine pure_ (i := 12) (N := some 2) #[true, true, true, true, true, true, true, true, true, true, true, true, true] rfl rfl (any_of HT_.out (by kernel_rfl)) (fun _ _ _ h => h) (Or.inl ⟨by rfl, pA_⟩) pB_ ?_
                          refine done_ (done_of HT_.out (by kernel_rfl)) ?_
                          try go_wp2
                          go_ret
                          exact ⟨qq12, qq1⟩
                        · rw [if_neg c56] at H
                          exact absurd H (by simp)
                      · rw [if_neg c55] at H
                        exact absurd H (by simp)
                    · rw [if_neg c54] at H
                      exact absurd H (by simp)
          · rw [if_neg c24] at H
            have c24b0 : ((t693.length : Int) == 3) = false := beq_eq_false_iff_ne.mpr c24
            have c24b1 : ((t693.length : Int) != 3) = true := bne_iff_ne.mpr c24
            replace H := Option.bind_eq_some_iff.mp H
            obtain ⟨t703, A600, H⟩ := H
            replace H : (some (t703 == 0)) = some r := H
            have A60 := Aside0.mk A600
            clear A600
            obtain rfl := Option.some.inj H
            obtain ⟨Ao61, co61, eo61⟩ := Kd.R_slice HO_5.out
            subst eo61
            go_wp2_with (first | ((with_reducible refine gate_callee (f := 22) rfl ?_); refine goesL_ (some 60) rfl rfl Try.func22 (by kernel_rfl) rfl #[.slice Ao61 t693.length co61] rfl qq5 ?_; (with_reducible refine (laws_sumOf.calls kj5 _ _ t693 t703 _ ?side1 ?side2 A60.out).mono ?_); (case side1 => exact qq14 HO_5.out); (case side2 => exact qq47 HO_5.out); rintro e w' ⟨rfl, ⟨nd, rfl⟩⟩; refine ⟨_, rfl, ?_⟩))
            go_ret
            exact ⟨qq12, qq1⟩

/-- THE ONE PURE STATEMENT of laws_FnShareNet: yours. -/
def laws_FnShareNet.Pure : Prop := ∀ (l0 : List Int), l0.length ≤ maxLen → l0.length * 1 ≤ 140737488351232 → (∀ x ∈ l0, (Lit.int .u8 x).wf = true) → ∃ k, laws_FnShareNet.f k l0 = some true
theorem laws_FnShareNet.walk (P : laws_FnShareNet.Pure) (a0 : Option Addr) (len0 cap0 : Nat) (z0 : List Int) (w : World) (w0 : (a0 = none ∧ len0 = 0 ∧ cap0 = 0 ∧ z0 = []) ∨ ∃ x, a0 = some x ∧ len0 ≤ cap0 ∧ cap0 ≤ maxLen ∧ z0.length = cap0 ∧ (∀ i, i < z0.length → w.cell? (x.add i) = some (.int .u8 (z0.getD i 0))) ∧ ∀ n ∈ z0, (Lit.int .u8 n).wf = true) (y0 : len0 * 1 ≤ 140737488351232) :
    Calls Try.prog 5 #[.slice a0 len0 cap0] w fun e w' => e = .returned (.bool true) ∧ Below w.heap.size w w' := by
  obtain ⟨l0, rfl, hr0, hm0, hw0, hc0⟩ := ReadsInt.ofRowC w0
  obtain ⟨k, h⟩ := P l0 hm0 y0 hw0
  refine (laws_FnShareNet.calls k _ _ l0 true w (Kd.C_of_reads (d := (0 : Int)) (h1 := fun _ => rfl) hr0) hc0 h rfl).mono ?_
  rintro e w' ⟨rfl, hd⟩
  exact ⟨rfl, hd⟩

end Go.Proofs.Ytmcfhmflncghiaa.Q
namespace Go.Proofs.Ytmcfhmflncghiaa.Pure
open Go.RowKit Go.Proofs.Ytmcfhmflncghiaa.Q Go.Proofs.YtmcfhmflncghiaaW.PrintWords Go.Proofs.YtmcfhmflncghiaaW.PrintLast Go.Proofs.YtmcfhmflncghiaaW.PrintMore
set_option linter.unusedVariables false
/-- Sums. -/
def sg : Nat → (Nat → Int) → Int
  | 0, _ => 0
  | n + 1, f => sg n f + f n
theorem sg_le (n : Nat) {f g : Nat → Int} (h : ∀ i, i < n → f i ≤ g i) : sg n f ≤ sg n g := by
  induction n with
  | zero => exact Int.le_refl _
  | succ n ih => have := ih (fun i hi => h i (by omega)); have := h n (by omega); simp only [sg]; omega
theorem sg_congr (n : Nat) {f g : Nat → Int} (h : ∀ i, i < n → f i = g i) : sg n f = sg n g := by
  induction n with
  | zero => rfl
  | succ n ih => simp only [sg]; rw [ih (fun i hi => h i (by omega)), h n (by omega)]
theorem sg_add (n : Nat) (f g : Nat → Int) : sg n (fun i => f i + g i) = sg n f + sg n g := by
  induction n with
  | zero => rfl
  | succ n ih => simp only [sg]; rw [ih]; omega
theorem sg_mul (n : Nat) (f : Nat → Int) (c : Int) : sg n (fun i => f i * c) = sg n f * c := by
  induction n with
  | zero => simp [sg]
  | succ n ih => simp only [sg]; rw [ih, Int.add_mul]
theorem sg_front (n : Nat) (f : Nat → Int) : sg (n + 1) f = f 0 + sg n (fun i => f (i + 1)) := by
  induction n with
  | zero => simp [sg]
  | succ n ih => rw [sg, ih]; simp only [sg]; omega
theorem sg_upd (n : Nat) {f g : Nat → Int} {i0 : Nat} (h0 : i0 < n) (c : Int) (h1 : f i0 = g i0 + c) (h2 : ∀ i, i < n → i ≠ i0 → f i = g i) : sg n f = sg n g + c := by
  induction n with
  | zero => omega
  | succ n ih =>
    simp only [sg]
    by_cases e : i0 = n
    · subst e
      rw [sg_congr i0 (fun i hi => h2 i (by omega) (by omega))]; omega
    · rw [ih (by omega) (fun i hi hne => h2 i (by omega) hne), h2 n (by omega) (fun q => e q.symm)]; omega
theorem rd_cons_succ (y : Int) (s : List Int) (i : Nat) : rd (y :: s) ((i + 1 : Nat) : Int) = rd s (i : Int) := by
  unfold rd
  rw [show (((i + 1 : Nat) : Int)).toNat = i + 1 by omega, Int.toNat_natCast]; simp
theorem rd_cons_zero (y : Int) (s : List Int) : rd (y :: s) ((0 : Nat) : Int) = y := by simp [rd]
theorem sum_sg (l : List Int) : l.sum = sg l.length (fun i => rd l (i : Int)) := by
  induction l with
  | nil => rfl
  | cons y l ih =>
    rw [List.sum_cons, List.length_cons, sg_front, rd_cons_zero, ih]
    exact congrArg (y + ·) (sg_congr _ (fun i _ => (rd_cons_succ y l i).symm))
theorem rd_map' (f : Int → Int) (l : List Int) (i : Nat) (hi : i < l.length) : rd (l.map f) (i : Int) = f (rd l (i : Int)) := by
  unfold rd
  rw [Int.toNat_natCast, List.getD_eq_getElem?_getD, List.getD_eq_getElem?_getD, List.getElem?_map, List.getElem?_eq_getElem hi]
  rfl
theorem rd_set_o {r : List Int} {i j : Nat} (x : Int) (h : i ≠ j) : rd (r.set j x) (i : Int) = rd r (i : Int) := by
  unfold rd
  rw [Int.toNat_natCast, List.getD_eq_getElem?_getD, List.getD_eq_getElem?_getD, List.getElem?_set_ne (fun e => h e.symm)]
theorem rd_set_s {r : List Int} {j : Nat} (x : Int) (h : j < r.length) : rd (r.set j x) (j : Int) = x := by
  unfold rd
  rw [Int.toNat_natCast, List.getD_eq_getElem?_getD, List.getElem?_set_self h]; rfl
theorem mem_rd {l : List Int} {x : Int} (h : x ∈ l) : ∃ i : Nat, i < l.length ∧ rd l (i : Int) = x := by
  obtain ⟨i, hi, rfl⟩ := List.getElem_of_mem h
  refine ⟨i, hi, ?_⟩
  unfold rd
  rw [Int.toNat_natCast, List.getD_eq_getElem?_getD, List.getElem?_eq_getElem hi]; rfl
theorem nextI_max {r : List Int} (suf : List Int) : ∀ (pre : List Int) (b : Nat), r = pre ++ suf → (∀ k : Nat, k < pre.length → rd r (k : Int) ≤ rd r (b : Int)) → ∀ k : Nat, k < r.length → rd r (k : Int) ≤ rd r (nextI r suf pre.length b : Int) := by
  induction suf with
  | nil =>
    intro pre b hr h k hk
    simp only [nextI]
    exact h k (by rw [hr] at hk; simpa using hk)
  | cons y suf ih =>
    intro pre b hr h
    have hy : rd r (pre.length : Int) = y := by rw [hr]; exact rd_mid pre suf y
    have hr' : r = (pre ++ [y]) ++ suf := by rw [hr]; simp
    have hl' : (pre ++ [y]).length = pre.length + 1 := by simp
    simp only [nextI]
    rw [← hl']
    by_cases c : y > rd r (b : Int)
    · rw [if_pos c]
      refine ih (pre ++ [y]) pre.length hr' (fun k hk => ?_)
      by_cases e : k = pre.length
      · rw [e]; exact Int.le_refl _
      · have := h k (by omega); omega
    · rw [if_neg c]
      refine ih (pre ++ [y]) b hr' (fun k hk => ?_)
      by_cases e : k = pre.length
      · rw [e]; omega
      · exact h k (by omega)
theorem nextR_max (r : List Int) : ∀ k : Nat, k < r.length → rd r (k : Int) ≤ rd r (nextR r : Int) :=
  nextI_max r [] 0 rfl (fun k hk => absurd hk (by simp))
/-- How many are still there. -/
def cnt (r : List Int) : Int := sg r.length (fun i => if 0 ≤ rd r (i : Int) then 1 else 0)
theorem cnt_ex {n : Nat} {f : Nat → Int} (h : 0 < sg n (fun i => if 0 ≤ f i then 1 else 0)) : ∃ k, k < n ∧ 0 ≤ f k := by
  induction n with
  | zero => simp [sg] at h
  | succ n ih =>
    by_cases c : 0 ≤ f n
    · exact ⟨n, by omega, c⟩
    · simp only [sg] at h
      rw [if_neg c] at h
      obtain ⟨k, h1, h2⟩ := ih (by omega)
      exact ⟨k, by omega, h2⟩
theorem bd_ex (n : Nat) (f : Nat → Int) : ∃ t, ∀ i, i < n → f i ≤ t := by
  induction n with
  | zero => exact ⟨0, fun i hi => by omega⟩
  | succ n ih =>
    obtain ⟨t, h⟩ := ih
    by_cases c : f n ≤ t
    · exact ⟨t, fun i hi => by by_cases e : i = n; (subst e; exact c); exact h i (by omega)⟩
    · exact ⟨f n, fun i hi => by by_cases e : i = n; (subst e; exact Int.le_refl _); have := h i (by omega); omega⟩
theorem pick_spec (m : Nat) : ∀ (out r : List Int), out.length = r.length → (m : Int) ≤ cnt r → ∃ (p : Nat → Int) (t : Int), sg r.length p = m ∧ ∀ i : Nat, i < r.length → rd (pickN m out r) (i : Int) = rd out (i : Int) + p i ∧ (p i = 0 ∨ p i = 1) ∧ (p i = 1 → t ≤ rd r (i : Int) ∧ 0 ≤ rd r (i : Int)) ∧ (p i = 0 → rd r (i : Int) ≤ t) := by
  induction m with
  | zero =>
    intro out r h _
    obtain ⟨t, ht⟩ := bd_ex r.length (fun i => rd r (i : Int))
    refine ⟨fun _ => 0, t, ?_, fun i hi => ⟨by simp [pickN], Or.inl rfl, fun q => by simp at q, fun _ => ht i hi⟩⟩
    have : sg r.length (fun _ => (0 : Int)) = 0 := by
      generalize r.length = n
      induction n with
      | zero => rfl
      | succ n ih => simp only [sg]; rw [ih]; rfl
    rw [this]; rfl
  | succ m ih =>
    intro out r h hm
    obtain ⟨k, hk, hk0⟩ := cnt_ex (n := r.length) (f := fun i => rd r (i : Int)) (by unfold cnt at hm; omega)
    have hi0 := nextR_lt (r := r) (by omega)
    have hmax := nextR_max r
    have h00 : 0 ≤ rd r (nextR r : Int) := by have := hmax k hk; omega
    generalize hi : nextR r = i0 at hi0 hmax h00
    have hc : cnt r = cnt (r.set i0 (-1)) + 1 := by
      unfold cnt
      rw [List.length_set]
      refine sg_upd r.length hi0 1 ?_ (fun i _ hne => ?_)
      · rw [rd_set_s _ hi0, if_pos h00]; rfl
      · rw [rd_set_o _ hne]
    obtain ⟨p, t, hs, hp⟩ := ih (out.set i0 (rd out i0 + 1)) (r.set i0 (-1)) (by simp [h]) (by omega)
    rw [List.length_set] at hs hp
    have hp0 : p i0 = 0 := by
      obtain ⟨_, q, q1, _⟩ := hp i0 hi0
      rcases q with q | q
      · exact q
      · have := (q1 q).2; rw [rd_set_s _ hi0] at this; omega
    obtain ⟨t2, ht1, ht2, ht3⟩ : ∃ t2, t2 ≤ t ∧ t2 ≤ rd r (i0 : Int) ∧ (t2 = t ∨ t2 = rd r (i0 : Int)) := by
      by_cases c : t ≤ rd r (i0 : Int)
      · exact ⟨t, by omega, c, Or.inl rfl⟩
      · exact ⟨rd r (i0 : Int), by omega, by omega, Or.inr rfl⟩
    refine ⟨fun i => if i = i0 then 1 else p i, t2, ?_, fun i hi' => ?_⟩
    · rw [sg_upd (g := p) r.length hi0 1 (by rw [if_pos rfl, hp0]; rfl) (fun i _ hne => by rw [if_neg hne]), hs]; omega
    · simp only [pickN]
      rw [hi]
      obtain ⟨e1, e2, e3, e4⟩ := hp i hi'
      by_cases e : i = i0
      · subst e
        rw [if_pos rfl, e1, rd_set_s _ (by omega), hp0]
        exact ⟨by omega, Or.inr rfl, fun _ => ⟨ht2, h00⟩, fun q => by omega⟩
      · rw [if_neg e, e1, rd_set_o _ e]
        rw [rd_set_o _ e] at e3 e4
        refine ⟨rfl, e2, fun q => ⟨by have := (e3 q).1; omega, (e3 q).2⟩, fun q => ?_⟩
        have := e4 q
        have := hmax i hi'
        omega
theorem cnt_all {r : List Int} (h : ∀ i : Nat, i < r.length → 0 ≤ rd r (i : Int)) : cnt r = r.length := by
  unfold cnt
  rw [sg_congr (g := fun _ => 1) _ (fun i hi => by rw [if_pos (h i hi)])]
  generalize r.length = n
  induction n with
  | zero => rfl
  | succ n ih => simp only [sg]; rw [ih]; omega
/-- What is known of the shares. -/
structure SP (l : List Int) (a : Int) (out : List Int) (f R p : Nat → Int) (t : Int) : Prop where
  len : out.length = l.length
  out_ : ∀ i : Nat, i < l.length → rd out (i : Int) = f i + p i
  fr : ∀ i : Nat, i < l.length → f i * l.sum + R i = a * rd l (i : Int)
  rb : ∀ i : Nat, i < l.length → 0 ≤ R i ∧ R i < l.sum
  pb : ∀ i : Nat, i < l.length → p i = 0 ∨ p i = 1
  p1 : ∀ i : Nat, i < l.length → p i = 1 → t ≤ R i ∧ 0 < R i
  p0 : ∀ i : Nat, i < l.length → p i = 0 → R i ≤ t
  tb : 0 ≤ t ∧ t ≤ l.sum
  sum : sg l.length p = a - sg l.length f
theorem share_SP {l : List Int} {a : Int} (h : AV l a) : ∃ p t, SP l a (pickN (a - (fl l a).sum).toNat (fl l a) (rs l a)) (fun i => a * rd l (i : Int) / l.sum) (fun i => a * rd l (i : Int) % l.sum) p t := by
  have hs := h.1.sum
  have hfl : (fl l a).length = l.length := by simp [fl]
  have hrl : (rs l a).length = l.length := by simp [rs]
  have hf : ∀ i : Nat, i < l.length → rd (fl l a) (i : Int) = a * rd l (i : Int) / l.sum := fun i hi => by unfold fl; rw [rd_map' _ _ _ hi]
  have hr : ∀ i : Nat, i < l.length → rd (rs l a) (i : Int) = a * rd l (i : Int) % l.sum := fun i hi => by unfold rs; rw [rd_map' _ _ _ hi]
  have rb : ∀ i : Nat, i < l.length → 0 ≤ a * rd l (i : Int) % l.sum ∧ a * rd l (i : Int) % l.sum < l.sum := fun i _ => ⟨Int.emod_nonneg _ (by omega), Int.emod_lt_of_pos _ hs.1⟩
  have fr : ∀ i : Nat, i < l.length → a * rd l (i : Int) / l.sum * l.sum + a * rd l (i : Int) % l.sum = a * rd l (i : Int) := fun i _ => by
    have := Int.mul_ediv_add_emod (a * rd l (i : Int)) l.sum
    rw [Int.mul_comm] at this; exact this
  have hmb := missing_bd h
  have hc : cnt (rs l a) = l.length := by rw [cnt_all (fun i hi => by rw [hr i (by omega)]; exact (rb i (by omega)).1), hrl]
  obtain ⟨p, t, hsum, hp⟩ := pick_spec (a - (fl l a).sum).toNat (fl l a) (rs l a) (by omega) (by omega)
  rw [hrl] at hsum hp
  have hsf : (fl l a).sum = sg l.length (fun i => a * rd l (i : Int) / l.sum) := by
    rw [sum_sg, hfl]; exact sg_congr _ (fun i hi => hf i hi)
  have hsum2 : sg l.length p = a - sg l.length (fun i => a * rd l (i : Int) / l.sum) := by rw [← hsf]; omega
  -- the sum of the remainders
  have hsr : sg l.length (fun i => a * rd l (i : Int) % l.sum) = (a - sg l.length (fun i => a * rd l (i : Int) / l.sum)) * l.sum := by
    have e1 : sg l.length (fun i => a * rd l (i : Int) / l.sum * l.sum + a * rd l (i : Int) % l.sum) = sg l.length (fun i => rd l (i : Int) * a) := sg_congr _ (fun i hi => by rw [fr i hi, Int.mul_comm])
    rw [sg_add, sg_mul, sg_mul, ← sum_sg, Int.mul_comm l.sum a] at e1
    rw [Int.sub_mul]; omega
  generalize hF : (fun i : Nat => a * rd l (i : Int) / l.sum) = F at *
  have pos : ∀ i : Nat, i < l.length → p i = 1 → 0 < a * rd l (i : Int) % l.sum := by
    intro i hi hpi
    obtain ⟨_, _, q1, _⟩ := hp i hi
    have q := q1 hpi
    rw [hr i hi] at q
    rcases Int.lt_or_le 0 (a * rd l (i : Int) % l.sum) with c | c
    · exact c
    · exfalso
      have hle : sg l.length (fun i => a * rd l (i : Int) % l.sum) ≤ sg l.length (fun i => p i * (l.sum - 1)) := by
        refine sg_le _ (fun k hk => ?_)
        obtain ⟨_, b, _, b4⟩ := hp k hk
        have b5 := rb k hk
        rcases b with b | b
        · have := b4 b
          rw [hr k hk] at this
          rw [b, Int.zero_mul]; omega
        · rw [b, Int.one_mul]; omega
      rw [sg_mul, hsum2, hsr, Int.mul_sub] at hle
      have h1 : 1 ≤ sg l.length p := by
        have : sg l.length (fun k => if k = i then 1 else 0) ≤ sg l.length p := sg_le _ (fun k hk => by
          obtain ⟨_, b, _, _⟩ := hp k hk
          by_cases e : k = i
          · subst e; rw [if_pos rfl]; omega
          · rw [if_neg e]; omega)
        have e2 : sg l.length (fun k => if k = i then 1 else 0) = sg l.length (fun _ => (0 : Int)) + 1 := sg_upd _ hi 1 (by rw [if_pos rfl]; rfl) (fun k _ hk => by rw [if_neg hk])
        have e3 : sg l.length (fun _ => (0 : Int)) = sg l.length (fun i => 0 * (0 : Int)) := sg_congr _ (fun _ _ => by simp)
        rw [sg_mul, Int.mul_zero] at e3
        omega
      rw [hsum2] at h1
      omega
  obtain ⟨t2, g1, g2, g3⟩ : ∃ t2, (0 ≤ t2 ∧ t2 ≤ l.sum) ∧ (∀ x, 0 ≤ x → t ≤ x → t2 ≤ x) ∧ (∀ x, x < l.sum → x ≤ t → x ≤ t2) := by
    by_cases c : t < 0
    · exact ⟨0, by omega, fun x h1 h2 => by omega, fun x h1 h2 => by omega⟩
    · by_cases c2 : t ≤ l.sum
      · exact ⟨t, by omega, fun x h1 h2 => by omega, fun x h1 h2 => by omega⟩
      · exact ⟨l.sum, by omega, fun x h1 h2 => by omega, fun x h1 h2 => by omega⟩
  refine ⟨p, t2, ⟨by rw [pickN_length, hfl], fun i hi => ?_, fun i hi => ?_, rb, fun i hi => (hp i hi).2.1, fun i hi q => ?_, fun i hi q => ?_, g1, hsum2⟩⟩
  · rw [(hp i hi).1, hf i hi, ← hF]
  · rw [← hF]; exact fr i hi
  · have b := (hp i hi).2.2.1 q
    rw [hr i hi] at b
    exact ⟨g2 _ b.2 b.1, pos i hi q⟩
  · have b := (hp i hi).2.2.2 q
    rw [hr i hi] at b
    exact g3 _ (rb i hi).2 b
end Go.Proofs.Ytmcfhmflncghiaa.Pure
namespace Go.Proofs.Ytmcfhmflncghiaa.Pure
open Go.RowKit Go.Proofs.Ytmcfhmflncghiaa.Q Go.Proofs.YtmcfhmflncghiaaW.PrintWords Go.Proofs.YtmcfhmflncghiaaW.PrintLast Go.Proofs.YtmcfhmflncghiaaW.PrintMore
set_option linter.unusedVariables false
theorem SP.total {l : List Int} {a : Int} {out : List Int} {f R p : Nat → Int} {t : Int} (h : SP l a out f R p t) : out.sum = a := by
  rw [sum_sg, h.len, sg_congr _ h.out_, sg_add, h.sum]; omega
/-- How far a share is from the exact one. -/
theorem SP.off {l : List Int} {a : Int} {out : List Int} {f R p : Nat → Int} {t : Int} (h : SP l a out f R p t) (i : Nat) (hi : i < l.length) (d : Int) : (rd out (i : Int) + d) * l.sum - a * rd l (i : Int) = (p i + d) * l.sum - R i := by
  rw [h.out_ i hi, ← h.fr i hi, Int.add_assoc, Int.add_mul]; omega
theorem SP.near {l : List Int} {a : Int} {out : List Int} {f R p : Nat → Int} {t : Int} (h : SP l a out f R p t) (i : Nat) (hi : i < l.length) : ((rd out (i : Int) * l.sum - a * rd l (i : Int)).natAbs : Int) < l.sum := by
  have := h.off i hi 0
  rw [Int.add_zero, Int.add_zero] at this
  rw [this]
  have hr := h.rb i hi
  rcases h.pb i hi with q | q
  · rw [q]; omega
  · have := h.p1 i hi q
    rw [q]; omega
/-- The shares of an amount that is in range are themselves in range. -/
theorem SP.bd {l : List Int} {a : Int} {out : List Int} {f R p : Nat → Int} {t : Int} (hv : AV l a) (h : SP l a out f R p t) (i : Nat) (hi : i < l.length) : -10000001 ≤ rd out (i : Int) ∧ rd out (i : Int) ≤ 10000001 := by
  have hn := h.near i hi
  have hs := hv.1.sum
  have hr := hv.1.at_ (i : Int)
  have hle : rd l (i : Int) ≤ l.sum := by
    have e := sum_sg l
    have : sg l.length (fun k => if k = i then rd l (i : Int) else 0) ≤ sg l.length (fun k => rd l (k : Int)) := sg_le _ (fun k hk => by
      have := hv.1.at_ (k : Int)
      by_cases e : k = i
      · subst e; rw [if_pos rfl]; exact Int.le_refl _
      · rw [if_neg e]; exact this.1)
    have e2 : sg l.length (fun k => if k = i then rd l (i : Int) else 0) = sg l.length (fun _ => (0 : Int)) + rd l (i : Int) := sg_upd _ hi _ (by rw [if_pos rfl]; omega) (fun k _ hk => by rw [if_neg hk])
    have e3 : sg l.length (fun _ => (0 : Int)) = sg l.length (fun i => 0 * (0 : Int)) := sg_congr _ (fun _ _ => by simp)
    rw [sg_mul, Int.mul_zero] at e3
    omega
  have ha := hv.2
  constructor
  · rcases Int.lt_or_le (rd out (i : Int)) (-10000001) with q | q
    · have h1 : (rd out (i : Int) + 10000000) * l.sum ≤ -1 * l.sum := Int.mul_le_mul_of_nonneg_right (by omega) (by omega)
      have h2 : -10000000 * rd l (i : Int) ≤ a * rd l (i : Int) := Int.mul_le_mul_of_nonneg_right (by omega) hr.1
      rw [Int.add_mul] at h1
      omega
    · exact q
  · rcases Int.lt_or_le 10000001 (rd out (i : Int)) with q | q
    · have h1 : 1 * l.sum ≤ (rd out (i : Int) - 10000000) * l.sum := Int.mul_le_mul_of_nonneg_right (by omega) (by omega)
      have h2 : a * rd l (i : Int) ≤ 10000000 * rd l (i : Int) := Int.mul_le_mul_of_nonneg_right (by omega) hr.1
      rw [Int.sub_mul] at h1
      omega
    · exact q
end Go.Proofs.Ytmcfhmflncghiaa.Pure
