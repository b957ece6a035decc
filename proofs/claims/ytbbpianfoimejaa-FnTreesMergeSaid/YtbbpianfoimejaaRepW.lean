/- A list of one number repeated, as the library makes it: the walk. -/
import Derived.Test.YtbbpianfoimejaaNeighW
import Derived.Laws.CopyOwn
import Derived.Laws.OwnMore
import Derived.Deep.RegionLaw
import Derived.Deep.RegionHeldLaw
import Derived.BigRegion
import Derived.Test.YtbbpianfoimejaaQ5
namespace Go.Proofs.Ytbbpianfoimejaa.LinkW
open Go.RowKit Go.Proofs.Ytbbpianfoimejaa.Q Go.Proofs.Ytbbpianfoimejaa.Pure Go.Proofs.YtbbpianfoimejaaW.PrintWords Go.Proofs.YtbbpianfoimejaaW.PrintLast Go.Proofs.YtbbpianfoimejaaW.PrintMore
set_option linter.unusedVariables false
set_option linter.unusedSimpArgs false
theorem mul_one (n : Nat) (h : 2 ≤ n ∧ n ≤ 6) : bits_Mul.f 1 (n : Int) = some (0, (n : Int)) := by
  obtain rfl | rfl | rfl | rfl | rfl : n = 2 ∨ n = 3 ∨ n = 4 ∨ n = 5 ∨ n = 6 := by omega
  all_goals rfl
theorem wrap_u (n : Nat) (h : n ≤ 6) : IntKind.u64.wrap (n : Int) = n := by
  obtain rfl | rfl | rfl | rfl | rfl | rfl | rfl : n = 0 ∨ n = 1 ∨ n = 2 ∨ n = 3 ∨ n = 4 ∨ n = 5 ∨ n = 6 := by omega
  all_goals rfl
theorem made_eq (n : Nat) : madeCells #[Value.int .i64 0] n = Array.replicate n (Value.int .i64 0) := by
  have := toList_madeCells_one (Value.int .i64 0) n
  apply Array.toList_inj.1
  rw [this]; simp
theorem size_int : (Try.prog.info? 3).map (·.size) = some 1 := by kernel_rfl
theorem new_row (w : World) (nd n : Nat) : ((w.drewN nd).alloc (.cells (Array.replicate n (Value.int .i64 0)) 3)).heap[w.heap.size]? = some (.cells (List.replicate n (Value.int .i64 0)).toArray 3 (0, 0)) := by
  have := heap_alloc_new (w.drewN nd) (.cells (Array.replicate n (Value.int .i64 0)) 3)
  simpa using this
theorem new_cell {w : World} {a : Addr} {v : Value} (hx : w.cell? a = some v) (nd : Nat) (o : Obj) : ((w.drewN nd).alloc o).cell? a = some v := by
  have h0 : (w.drewN nd).cell? a = some v := by simpa using hx
  exact (World.cell?_of_block (heap_alloc_old (w.drewN nd) o (World.block_lt_of_cell? _ a h0))).trans h0
theorem one_src {w : World} {a : Addr} {v : Value} (h : w.cell? a = some v) : ∀ (j : Nat) (x : Value), [v][j]? = some x → w.cell? (a.add j) = some x := by
  intro j x hj
  match j, hj with
  | 0, hj =>
    simp at hj
    subst hj
    simpa [Addr.add] using h
structure Halt1 (p : Prop) : Prop where
  out : p
/-- The row so far. -/
def row2 (n m : Nat) : List Value := List.replicate m (.int .i64 (-1)) ++ List.replicate (n - m) (.int .i64 0)
theorem row2_one (n : Nat) (h : 1 ≤ n) : row2 n 1 = splice (List.replicate n (Value.int .i64 0)) 0 [.int .i64 (-1)] := by
  obtain ⟨k, rfl⟩ : ∃ k, n = k + 1 := ⟨n - 1, by omega⟩
  simp [row2, splice]
theorem wrap_add (m k : Nat) (hk : k ≤ 6) (hm : m ≤ 6) : IntKind.i64.wrap ((m : Int) + (k : Int)) = ((m + k : Nat) : Int) := by
  obtain rfl | rfl | rfl | rfl | rfl | rfl | rfl : m = 0 ∨ m = 1 ∨ m = 2 ∨ m = 3 ∨ m = 4 ∨ m = 5 ∨ m = 6 := by omega
  all_goals (obtain rfl | rfl | rfl | rfl | rfl | rfl | rfl : k = 0 ∨ k = 1 ∨ k = 2 ∨ k = 3 ∨ k = 4 ∨ k = 5 ∨ k = 6 := by omega) <;> rfl
theorem row2_len (n m : Nat) (h : m ≤ n) : (row2 n m).length = n := by simp [row2]; omega
theorem row2_step (n m : Nat) (h : m < n) : row2 n (m + min m (n - m)) = splice (row2 n m) m (List.replicate (min m (n - m)) (Value.int .i64 (-1))) := by
  unfold row2 splice
  apply List.ext_getElem
  · simp; omega
  · intro i h1 h2
    simp only [List.getElem_append, List.getElem_replicate, List.length_replicate, List.getElem_take, List.getElem_drop, List.length_take, List.length_append, List.length_drop]
    repeat' split
    all_goals first | rfl | omega
theorem row2_src {W : World} {g n m : Nat} (hg : W.heap[g]? = some (.cells (row2 n m).toArray 3 (0, 0))) (h : m ≤ n) : ∀ (j : Nat) (x : Value), (List.replicate (min m (n - m)) (Value.int .i64 (-1)))[j]? = some x → W.cell? ((⟨g, 0, none⟩ : Addr).add j) = some x := by
  intro j x hj
  rw [List.getElem?_replicate] at hj
  split at hj
  · obtain rfl := Option.some.inj hj
    have e : (⟨g, 0, none⟩ : Addr).add j = ⟨g, j, none⟩ := by
      unfold Addr.add
      split
      · next h => simp_all
      · simp
    rw [e]
    refine (blk_cell hg j).trans ?_
    have : j < (List.replicate m (Value.int .i64 (-1))).length := by simp; omega
    simp [row2, List.getElem?_append_left this, List.getElem?_replicate]
    omega
  · cases hj
set_option maxHeartbeats 4000000 in
set_option maxRecDepth 100000 in
theorem repeat_calls (n gx : Nat) (h : 2 ≤ n ∧ n ≤ 6) (w : World) (hx : w.cell? ⟨gx, 0, none⟩ = some (.int .i64 (-1))) :
    Calls Try.prog 53 #[.slice (some ⟨gx, 0, none⟩) 1 1, .int .i64 n] w fun e w' => ∃ g, e = .returned (.slice (some ⟨g, 0, none⟩) n n) ∧ w'.heap[g]? = some (.cells (List.replicate n (Value.int .i64 (-1))).toArray 3 (0, 0)) ∧ w.heap.size ≤ g ∧ Below w.heap.size w w' := by
  have hM := mul_one n h
  have hu := wrap_u n h.2
  have p0 : decide ((n : Int) < 0) = false := decide_eq_false (by omega)
  have p1 : decide ((9223372036854775807 : Int) < n) = false := decide_eq_false (by omega)
  have hmk := run_make_row' (P := Try.prog) 31 3 (.int .i64 0) 8 Try.underlying31 info_int rfl .i64 .i64 n (by omega) (by omega)
  go_enter Try.func53, Try.ntmps53
  have hmd := made_eq n
  go_wp2_with (first | (go_at_call 54; (with_reducible refine (bits_Mul.calls _ _ _ _ _ hM).mono ?_); rintro e w' ⟨rfl, ⟨nd, rfl⟩⟩) | ((with_reducible refine gate_builtin (b := .copy) (xs := #[.tmp 31, .tmp 32]) rfl ?_); refine Halt1.out ?_))
  refine Halt1.mk ?_
  refine wpList_copy_splice (by rfl) (.tmp 31) (.tmp 32) 31 31 (by rfl) 3 Try.underlying31 size_int (some ⟨w.heap.size, 0, none⟩) (some ⟨gx, 0, none⟩) n n 1 1 (by rfl) (by rfl) w.heap.size 0 (List.replicate n (.int .i64 0)) 3 (new_row w nd n) [.int .i64 (-1)] (by show 1 = min 1 n; omega) (fun _ => ⟨rfl, ⟨gx, 0, none⟩, rfl, one_src (new_cell hx nd _)⟩) (by simp; omega) (by simp [Value.oneCell']) w.heap.size w (below_alloc (pw_below_drewN (Below.refl _ _) _) _) (Nat.le_refl _) ?_
  intro w2 HG2 hB2
  go_wp2
  replace HG2 := Aside0.mk HG2.out
  replace hB2 := Aside0.mk hB2
  go_loopw [8] (fun v8 wr => ∃ m : Nat, 1 ≤ m ∧ m ≤ n ∧ v8 = .int .i64 m ∧ Aside0 (wr.heap[w.heap.size]? = some (.cells (row2 n m).toArray 3 (0, 0))) ∧ Aside0 (Below w.heap.size w wr)) (fun v8 _ => n - (intOf v8).toNat)
  case atStart => exact ⟨1, Nat.le_refl _, by omega, rfl, ⟨by rw [row2_one n (by omega)]; exact HG2.out⟩, hB2⟩
  case round =>
    clear HG2 hB2
    obtain ⟨m, m1, m2, rfl, HG, HB⟩ := hrel
    by_cases hlt : m < n
    · have q0 := eq_true (show (0 : Int) ≤ (m : Int) by omega)
      have q1 := eq_true (show (m : Int) < (n : Int) by omega)
      have q2 := eq_true (show (m : Int) ≤ (n : Int) by omega)
      have hg : (wr.drew).heap[w.heap.size]? = some (.cells (row2 n m).toArray 3 (0, 0)) := HG.out
      have hb : Below w.heap.size w wr.drew := below_drew1 HB.out
      have hlen := row2_len n m m2
      have hmin : (List.replicate (min m (n - m)) (Value.int .i64 (-1))).length = Nat.min m (n - m) := List.length_replicate
      have hfit : m + (List.replicate (min m (n - m)) (Value.int .i64 (-1))).length ≤ (row2 n m).length := by rw [hlen, List.length_replicate]; omega
      have hone : ∀ v ∈ List.replicate (min m (n - m)) (Value.int .i64 (-1)), v.oneCell' = true := by intro v hv; rw [List.eq_of_mem_replicate hv]; rfl
      have hnm : ¬ n = m := by omega
      have hsrc := row2_src hg m2
      generalize hcs : List.replicate (min m (n - m)) (Value.int .i64 (-1)) = cs at hmin hfit hone hsrc
      generalize hcur : row2 n m = cur at hg hfit hlen
      replace hcs := Aside0.mk hcs
      replace hcur := Aside0.mk hcur
      go_wp2
      go_region_held_law (fun w' => True) (exact trivial)
       ((refine step_copy_splice (by rfl) (.tmp 41) (.tmp 44) 31 31 (by rfl) 3 Try.underlying31 size_int (some ⟨w.heap.size, m, none⟩) (some ⟨w.heap.size, 0, none⟩) (n - m) (n - m) m n (by rfl) (by rfl) w.heap.size m cur 3 hg cs hmin (fun _ => ⟨rfl, ⟨w.heap.size, 0, none⟩, rfl, hsrc⟩) hfit hone w.heap.size w hb (Nat.le_refl _) ?_; intro w2 HG2 hB2; replace HG2 := Aside0.mk HG2.out; replace hB2 := Aside0.mk hB2))
      simp only [List.getElem_toArray, List.getElem_cons_succ, List.getElem_cons_zero, Act.put, List.setIfInBounds_toArray, List.set_cons_succ, List.set_cons_zero, goInt]
      have e9 : IntKind.i64.wrap ((m : Int) + ((Nat.min m (n - m) : Nat) : Int)) = ((m + min m (n - m) : Nat) : Int) := wrap_add m _ (show min m (n - m) ≤ 6 by omega) (by omega)
      have hrow : (splice cur m cs) = row2 n (m + min m (n - m)) := by rw [← hcs.out, ← hcur.out, row2_step n m hlt]
      have hms : n - (intOf (.int .i64 ((m + min m (n - m) : Nat) : Int))).toNat < n - (intOf (.int .i64 (m : Int))).toNat := by
        show n - (m + min m (n - m)) < n - m
        omega
      rw [e9]
      go_wp2
      go_roundw
      case rel => exact ⟨m + min m (n - m), by omega, by omega, rfl, ⟨by rw [← hrow]; exact HG2.out⟩, hB2⟩
      case measure => exact hms
    · obtain rfl : m = n := by omega
      go_wp2
      go_ret
      refine ⟨_, rfl, ?_, Nat.le_refl _, HB.out⟩
      have h := HG.out
      unfold row2 at h
      simpa using h
end Go.Proofs.Ytbbpianfoimejaa.LinkW
