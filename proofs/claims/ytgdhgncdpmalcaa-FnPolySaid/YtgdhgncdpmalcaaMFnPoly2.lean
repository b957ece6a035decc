/- Part 2 of what the proof of this law rests on: the functions of the translation as plain Lean functions with their walks, and the plain laws behind. -/
import Derived.ArgAppend
import Derived.Below
import Derived.BigQuiet
import Derived.Deep.AppendLies
import Derived.Deep.CutBlock
import Derived.Deep.DeepCutAuto
import Derived.Deep.Draws
import Derived.Deep.LoopGhost
import Derived.Deep.OwnRows
import Derived.Deep.QuietTactic
import Derived.Deep.RegionHeld3
import Derived.KernelRfl
import Derived.LaidEqlPtr
import Derived.Laws.BitsLemmas
import Derived.Laws.BytesArg
import Derived.Laws.IdiomCopy
import Derived.Laws.MakeOwn
import Derived.Laws.OwnMore
import Derived.Laws.Rows
import Derived.Laws.Slices
import Derived.Lib.AppendStr
import Derived.Lib.Builder
import Derived.Lib.ConvBytes
import Derived.LoopIn
import Derived.LoopNIn
import Derived.Maps.AppendAt
import Derived.OrdersHeld
import Derived.Outline
import Derived.OwnWalk
import Derived.OwnWalkIn
import Derived.RangeFuncBound
import Derived.RangeFuncCalls
import Derived.RangeFuncLeaves
import Derived.RangeFuncNested
import Derived.RowKit
import Derived.RowKit3
import Derived.Shelf.Abstract
import Derived.Shelf.RegionOpen
import Derived.Sort.LoopGhostIn
import Derived.Tactics
import Derived.TacticsInMore
import Derived.Test.YtgdhgncdpmalcaaProg
import Derived.WalkKit
import Derived.WideLaws
import Derived.Test.YtgdhgncdpmalcaaMFnPoly1
namespace Go.Proofs.Ytgdhgncdpmalcaa.Q
open Go.RowKit Go.Proofs.YtgdhgncdpmalcaaW.PrintWords Go.Proofs.YtgdhgncdpmalcaaW.PrintLast Go.Proofs.YtgdhgncdpmalcaaW.PrintMore
/-! proofs that stand many times below, each found by its script where it is named -/
theorem pA_ {p : Prop} (h : p := by (intro w'; go_simp; with_reducible rfl)) : p := h
theorem pB_ {p : Prop} (h : p := by (simp only [Act.put, List.setIfInBounds_toArray, List.set_cons_zero, List.set_cons_succ, i64_w, i32_w]; rfl)) : p := h
theorem bbl_ {w1 w w' : World} {g : Nat} {o : Obj} (h0 : w1.heap[g]? = some o) (hb : Below w.heap.size w w') (h : w1.heap[g]? = some o → w.heap[g]? = some o := by (intro q; (with_reducible repeat (first | refine blk_drewN ?_ _ | refine blk_drew ?_ | refine blk_alloc ?_ _)); exact q)) : w'.heap[g]? = some o := blk_below (h h0) hb
theorem blt_ {w1 w : World} {g : Nat} {o : Obj} (h0 : w1.heap[g]? = some o) (h : w1.heap[g]? = some o → w.heap[g]? = some o := by (intro q; (with_reducible repeat (first | refine blk_drewN ?_ _ | refine blk_drew ?_ | refine blk_alloc ?_ _)); exact q)) : g < w.heap.size := blk_lt (h h0)
theorem qq1 {p : Prop} (h : p := by repeat (first | (with_reducible first | exact HB.out | apply below_alloc | apply pw_below_drewN | apply below_drew1) | exact HB.out)) : p := h
theorem qq2 {p : Prop} (h : p := by (try simp only [List.map_toArray, List.map_cons, List.map_nil]); first | done | rfl | (simp only [List.length_drop, List.length_take]; rfl)) : p := h
theorem qq3 {p : Prop} (h : p := by repeat (first | (with_reducible first | exact HK.out | apply KeepBut.set_ | apply keep_drewN | apply keep_drew | apply keep_alloc) | exact HK.out)) : p := h
theorem qq4 {p c'1 : Prop} (Y'1 : c'1) (h : c'1 → p := by intro Y'1; (with_reducible repeat (first | apply Kd.R_alloc | apply Kd.R_drewN | apply Kd.R_drew)); exact Y'1) : p := h Y'1
theorem qq5 {p c'1 c'2 : Prop} (Y'1 : c'1) (Y'2 : c'2) (h : c'1 → c'2 → p := by intro Y'1 Y'2; repeat (first | (with_reducible first | exact Y'1 | apply below_alloc | apply pw_below_drewN | apply below_drew1 | refine below_set ?_ (IsS81.ge Y'2)) | exact Y'1)) : p := h Y'1 Y'2
theorem qq6 {p c'1 : Prop} (Y'1 : c'1) (h : c'1 → p := by intro Y'1; repeat (first | (with_reducible first | exact Y'1 | apply IsS81.alloc | apply IsS81.drewN | apply IsS81.drew | apply IsS81.set_1) | exact Y'1)) : p := h Y'1
theorem qq7 {p c'1 c'2 c'3 c'4 : Prop} (Y'1 : c'1) (Y'2 : c'2) (Y'3 : c'3) (Y'4 : c'4) (h : c'1 → c'2 → c'3 → c'4 → p := by intro Y'1 Y'2 Y'3 Y'4; repeat (first | (with_reducible first | exact Y'1 | apply below_alloc | apply pw_below_drewN | apply below_drew1 | refine below_set ?_ Y'2 | refine below_set ?_ Y'3 | refine below_set ?_ Y'4) | exact Y'1)) : p := h Y'1 Y'2 Y'3 Y'4
theorem qq8 {p c'1 c'2 : Prop} (Y'1 : c'1) (Y'2 : c'2) (h : c'1 → c'2 → p := by intro Y'1 Y'2; repeat (first | (with_reducible first | exact Y'1 | apply below_alloc | apply pw_below_drewN | apply below_drew1 | refine below_set ?_ Y'2) | exact Y'1)) : p := h Y'1 Y'2
theorem qq9 {p c'1 : Prop} (Y'1 : c'1) (h : c'1 → p := by intro Y'1; (with_reducible repeat (first | refine blk_drewN ?_ _ | refine blk_drew ?_ | refine blk_alloc ?_ _)); exact Y'1) : p := h Y'1
theorem qq10 {p c'1 c'2 c'3 : Prop} (Y'1 : c'1) (Y'2 : c'2) (Y'3 : c'3) (h : c'1 → c'2 → c'3 → p := by intro Y'1 Y'2 Y'3; repeat (first | (with_reducible first | exact Y'1 | apply below_alloc | apply pw_below_drewN | apply below_drew1 | refine below_set ?_ Y'2 | refine below_set ?_ Y'3) | exact Y'1)) : p := h Y'1 Y'2 Y'3
theorem qq11 {p : Prop} (h : p := by first | rfl | (simp [errW_none, errW_some] <;> rfl) | (simp [*, errW_none, errW_some] <;> rfl)) : p := h
theorem qq12 {p c'1 : Prop} (Y'1 : c'1) (h : c'1 → p := by intro Y'1; (with_reducible repeat (first | apply Kd.Q_alloc | apply Kd.Q_drewN | apply Kd.Q_drew)); exact Y'1) : p := h Y'1
theorem qq13 {p c'1 c'2 : Prop} (Y'1 : c'1) (Y'2 : c'2) (h : c'1 → c'2 → p := by intro Y'1 Y'2; (with_reducible repeat (first | refine blk_drewN ?_ _ | refine blk_drew ?_ | refine blk_alloc ?_ _)); refine blk_far ?_ Y'1 _; (with_reducible repeat (first | refine blk_drewN ?_ _ | refine blk_drew ?_ | refine blk_alloc ?_ _)); refine blk_far ?_ Y'1 _; (with_reducible repeat (first | refine blk_drewN ?_ _ | refine blk_drew ?_ | refine blk_alloc ?_ _)); exact Y'2) : p := h Y'1 Y'2
theorem qq14 {p : Prop} (h : p := by repeat (first | (with_reducible first | exact HB.out | apply below_alloc | apply pw_below_drewN | apply below_drew1 | refine below_set ?_ GE268.out | refine below_set ?_ GE269.out | refine below_set ?_ GE270.out | refine below_set ?_ GE276.out | refine below_set ?_ GE281.out) | exact HB.out)) : p := h
theorem qq15 {p : Prop} (h : p := by repeat (first | (with_reducible first | exact HB.out | apply below_alloc | apply pw_below_drewN | apply below_drew1 | refine below_set ?_ GE268.out | refine below_set ?_ GE269.out | refine below_set ?_ GE270.out | refine below_set ?_ GE276.out) | exact HB.out)) : p := h
theorem qq16 {p : Prop} (h : p := by first | (rw [add_block]; exact (fun e_ => by have hk := HO332.out.1 _ e_.symm; exact (⟨hk.1.1.2, ⟨hk.1.2, hk.2⟩⟩ : (fun k_ => some k_ ≠ (.slice (some ad336) t319.length co11 : Value).ownBlock ∧ some k_ ≠ (v326 : Value).ownBlock ∧ some k_ ≠ (v338 : Value).ownBlock) _).1 rfl)) | (show some (Addr.add _ _).block ≠ _; rw [add_block]; exact (fun e_ => by have hk := HO332.out.1 _ e_.symm; exact (⟨hk.1.1.2, ⟨hk.1.2, hk.2⟩⟩ : (fun k_ => some k_ ≠ (.slice (some ad336) t319.length co11 : Value).ownBlock ∧ some k_ ≠ (v326 : Value).ownBlock ∧ some k_ ≠ (v338 : Value).ownBlock) _).1 rfl)) | exact (fun e_ => by have hk := HO332.out.1 _ e_.symm; exact (⟨hk.1.1.2, ⟨hk.1.2, hk.2⟩⟩ : (fun k_ => some k_ ≠ (.slice (some ad336) t319.length co11 : Value).ownBlock ∧ some k_ ≠ (v326 : Value).ownBlock ∧ some k_ ≠ (v338 : Value).ownBlock) _).1 rfl)) : p := h
theorem qq17 {p : Prop} (h : p := by repeat (first | (with_reducible first | exact HK.out | apply KeepBut.set_ | apply keep_drewN | apply keep_drew | apply keep_alloc | refine keep_far ?_ GW158.out _) | exact HK.out)) : p := h
theorem qq18 {p : Prop} (h : p := by first | (with_reducible assumption) | assumption) : p := h
theorem qq19 {p : Prop} (h : p := by repeat (first | (with_reducible first | exact HK.out | apply KeepBut.set_ | apply keep_drewN | apply keep_drew | apply keep_alloc | refine keep_far ?_ GW158.out _ | refine keep_far ?_ GW163.out _) | exact HK.out)) : p := h
theorem qq20 {p : Prop} (h : p := by repeat (first | (with_reducible first | exact HB.out | apply below_alloc | apply pw_below_drewN | apply below_drew1 | refine below_set ?_ (IsS81.ge HI0.out) | refine below_set ?_ GE158.out | refine below_set ?_ GE163.out) | exact HB.out)) : p := h
theorem qq21 {p : Prop} (h : p := by first | (go_simp; done) | (go_simp; rfl)) : p := h
theorem qq22 {p : Prop} (h : p := by repeat (first | (with_reducible first | exact HI0.out | apply IsS81.alloc | apply IsS81.drewN | apply IsS81.drew | apply IsS81.set_1 | refine IsS81.far ?_ NB0_158.out _ | refine IsS81.far ?_ NB0_163.out _) | exact HI0.out)) : p := h
theorem qq23 {p : Prop} (h : p := by first | rfl | (simp; done) | (simp [*]; done)) : p := h
theorem qq24 {p : Prop} (h : p := by repeat (first | (with_reducible first | exact HB.out | apply below_alloc | apply pw_below_drewN | apply below_drew1 | refine below_set ?_ (IsS81.ge HI0.out) | refine below_set ?_ GE158.out) | exact HB.out)) : p := h
theorem qq25 {p : Prop} (h : p := by repeat (first | (with_reducible first | exact HI0.out | apply IsS81.alloc | apply IsS81.drewN | apply IsS81.drew | apply IsS81.set_1 | refine IsS81.far ?_ NB0_158.out _) | exact HI0.out)) : p := h
theorem qq26 {p c'1 : Prop} (Y'1 : c'1) (h : c'1 → p := by intro Y'1; rw [hg]; exact Nat.ne_of_lt (blt_ Y'1)) : p := h Y'1
theorem qq27 {p c'1 : Prop} (Y'1 : c'1) (h : c'1 → p := by intro Y'1; rw [hg]; exact Nat.ne_of_gt (blt_ Y'1)) : p := h Y'1
theorem qq28 {p c'1 : Prop} (Y'1 : c'1) (h : c'1 → p := by intro Y'1; (with_reducible repeat (first | refine blk_drewN ?_ _ | refine blk_drew ?_ | refine blk_alloc ?_ _)); refine blk_put (cs := #[.int .i64 (wrap64 (t159 - 6)), .int .i64 0]) ?_ 1 _ rfl; (with_reducible repeat (first | refine blk_drewN ?_ _ | refine blk_drew ?_ | refine blk_alloc ?_ _)); refine blk_put (cs := #[.int .i64 0, .int .i64 0]) ?_ 0 _ rfl; (with_reducible repeat (first | refine blk_drewN ?_ _ | refine blk_drew ?_ | refine blk_alloc ?_ _)); exact Y'1) : p := h Y'1
theorem qq29 {p c'1 : Prop} (Y'1 : c'1) (h : c'1 → p := by intro Y'1; repeat (first | exact (Kd.Q_reads' Y'1).2.2 | (with_reducible refine Kd.C_alloc ?_ _) | (with_reducible refine Kd.C_drewN ?_ _) | (with_reducible refine Kd.C_drew ?_))) : p := h Y'1
theorem qq30 {p : Prop} (h : p := by first | (rw [add_block]; exact (fun e_ => by have hk := HO335.out.1 _ e_.symm; exact (⟨hk.2.2, ⟨hk.1, hk.2.1⟩⟩ : (fun k_ => some k_ ≠ (.slice (some ad336) t319.length co11 : Value).ownBlock ∧ some k_ ≠ (v326 : Value).ownBlock ∧ some k_ ≠ (.slice Ao46 y337.length co46 : Value).ownBlock) _).1 rfl)) | (show some (Addr.add _ _).block ≠ _; rw [add_block]; exact (fun e_ => by have hk := HO335.out.1 _ e_.symm; exact (⟨hk.2.2, ⟨hk.1, hk.2.1⟩⟩ : (fun k_ => some k_ ≠ (.slice (some ad336) t319.length co11 : Value).ownBlock ∧ some k_ ≠ (v326 : Value).ownBlock ∧ some k_ ≠ (.slice Ao46 y337.length co46 : Value).ownBlock) _).1 rfl)) | exact (fun e_ => by have hk := HO335.out.1 _ e_.symm; exact (⟨hk.2.2, ⟨hk.1, hk.2.1⟩⟩ : (fun k_ => some k_ ≠ (.slice (some ad336) t319.length co11 : Value).ownBlock ∧ some k_ ≠ (v326 : Value).ownBlock ∧ some k_ ≠ (.slice Ao46 y337.length co46 : Value).ownBlock) _).1 rfl)) : p := h
theorem qq31 {p : Prop} (h : p := by rw [hg]; exact (below_size qq1)) : p := h
theorem qq32 {p : Prop} (h : p := by first | (rw [add_block]; exact (fun e_ => by have hk := HO332.out.1 _ e_.symm; exact (⟨hk.1.2, hk.2⟩ : (fun k_ => some k_ ≠ (.slice (some ad336) t319.length co11 : Value).ownBlock ∧ some k_ ≠ (v326 : Value).ownBlock) _).1 rfl)) | (show some (Addr.add _ _).block ≠ _; rw [add_block]; exact (fun e_ => by have hk := HO332.out.1 _ e_.symm; exact (⟨hk.1.2, hk.2⟩ : (fun k_ => some k_ ≠ (.slice (some ad336) t319.length co11 : Value).ownBlock ∧ some k_ ≠ (v326 : Value).ownBlock) _).1 rfl)) | exact (fun e_ => by have hk := HO332.out.1 _ e_.symm; exact (⟨hk.1.2, hk.2⟩ : (fun k_ => some k_ ≠ (.slice (some ad336) t319.length co11 : Value).ownBlock ∧ some k_ ≠ (v326 : Value).ownBlock) _).1 rfl)) : p := h
theorem qq33 {p c'1 : Prop} (Y'1 : c'1) (h : c'1 → p := by intro Y'1; repeat (first | exact (Kd.R_reads' Y'1).2.2 | (with_reducible refine Kd.C_alloc ?_ _) | (with_reducible refine Kd.C_drewN ?_ _) | (with_reducible refine Kd.C_drew ?_))) : p := h Y'1
theorem qq34 {p c'1 c'2 : Prop} (Y'1 : c'1) (Y'2 : c'2) (h : c'1 → c'2 → p := by intro Y'1 Y'2; rw [hg]; exact (below_size (qq8 Y'1 Y'2))) : p := h Y'1 Y'2
theorem qq35 {p c'1 : Prop} (Y'1 : c'1) (h : c'1 → p := by intro Y'1; (with_reducible repeat (first | apply Kd.R_alloc | apply Kd.R_drewN | apply Kd.R_drew)); exact Kd.R_mono Y'1 (fun _ hk => hk.2)) : p := h Y'1
theorem qq36 {p : Prop} (h : p := by rw [hg]; exact Nat.ne_of_lt (IsS81.lt (show IsS81 w0 _ g s0_0 t162 from by repeat (first | (with_reducible first | exact HI0.out | apply IsS81.alloc | apply IsS81.drewN | apply IsS81.drew | apply IsS81.set_1 | refine IsS81.far ?_ NB0_158.out _) | exact HI0.out)))) : p := h
theorem qq37 {p : Prop} (h : p := by rw [hg]; exact Nat.ne_of_gt (IsS81.lt (show IsS81 w0 _ g s0_0 t162 from by repeat (first | (with_reducible first | exact HI0.out | apply IsS81.alloc | apply IsS81.drewN | apply IsS81.drew | apply IsS81.set_1 | refine IsS81.far ?_ NB0_158.out _) | exact HI0.out)))) : p := h
theorem qq38 {p : Prop} (h : p := by exact (Reps.c2 (show Kd.M k32 _ _ _ (⟨(rd_T32 t319 (ji20)).f0, (rd_T32 t319 (ji20)).f1⟩ : S32) [.int .i64 ((rd_T32 t319 (ji20)).f0), .int .i64 ((rd_T32 t319 (ji20)).f1)] from (k32_mkM _ _ _ (⟨(rd_T32 t319 (ji20)).f0, (rd_T32 t319 (ji20)).f1⟩ : S32) )) (Reps.none _ _))) : p := h
theorem qq39 {p : Prop} (h : p := by exact (Reps.c2 (show Kd.M k32 _ _ _ (⟨(wrap64 (t122 - 2)), (wrap64 (t124 - 2))⟩ : S32) [.int .i64 (wrap64 (t122 - 2)), .int .i64 (wrap64 (t124 - 2))] from (k32_mkM _ _ _ (⟨(wrap64 (t122 - 2)), (wrap64 (t124 - 2))⟩ : S32) )) (Reps.c2 (show Kd.M k32 _ _ _ (⟨wrap64 ((wrap64 (t122 - 2)) + 1), (wrap64 (t124 - 2))⟩ : S32) [.int .i64 (wrap64 ((wrap64 (t122 - 2)) + 1)), .int .i64 (wrap64 (t124 - 2))] from (k32_mkM _ _ _ (⟨wrap64 ((wrap64 (t122 - 2)) + 1), (wrap64 (t124 - 2))⟩ : S32) )) (Reps.none _ _)))) : p := h
theorem qq40 {p : Prop} (h : p := by rw [hg]; exact (below_size (by repeat (first | (with_reducible first | exact HBW.out | apply below_alloc | apply pw_below_drewN | apply below_drew1) | exact HBW.out)))) : p := h
theorem qq41 {p : Prop} (h : p := by simp only [putAll, Act.put, List.setIfInBounds_toArray, List.set_cons_zero, List.set_cons_succ]) : p := h
theorem qq42 {p : Prop} (h : p := by (with_reducible repeat (first | refine blk_drewN ?_ _ | refine blk_drew ?_ | refine blk_alloc ?_ _)); refine blk_put (cs := #[.int .i64 ((rd_T32 l0 x15_2).f0), .int .i64 0]) ?_ 1 _ rfl; (with_reducible repeat (first | refine blk_drewN ?_ _ | refine blk_drew ?_ | refine blk_alloc ?_ _)); refine blk_put (cs := #[.int .i64 0, .int .i64 0]) ?_ 0 _ rfl; (with_reducible repeat (first | refine blk_drewN ?_ _ | refine blk_drew ?_ | refine blk_alloc ?_ _)); exact BK111.out) : p := h
theorem qq43 {p : Prop} (h : p := by rw [hg]; exact Nat.ne_of_lt (IsS81.lt (show IsS81 w0 _ g s0_0 s0_1 from by repeat (first | (with_reducible first | exact HI0.out | apply IsS81.alloc | apply IsS81.drewN | apply IsS81.drew | apply IsS81.set_1) | exact HI0.out)))) : p := h
theorem qq44 {p : Prop} (h : p := by rw [hg]; exact Nat.ne_of_gt (IsS81.lt (show IsS81 w0 _ g s0_0 s0_1 from by repeat (first | (with_reducible first | exact HI0.out | apply IsS81.alloc | apply IsS81.drewN | apply IsS81.drew | apply IsS81.set_1) | exact HI0.out)))) : p := h
theorem qq45 {p : Prop} (h : p := by repeat (first | exact HR0.out | (with_reducible refine Kd.C_alloc ?_ _) | (with_reducible refine Kd.C_drewN ?_ _) | (with_reducible refine Kd.C_drew ?_))) : p := h
theorem qq46 {p : Prop} (h : p := by first | omega | exact Nat.le_refl _) : p := h
theorem qq47 {p c'1 c'2 c'3 : Prop} (Y'1 : c'1) (Y'2 : c'2) (Y'3 : c'3) (h : c'1 → c'2 → c'3 → p := by intro Y'1 Y'2 Y'3; rw [hg]; exact (below_size (qq10 Y'1 Y'2 Y'3))) : p := h Y'1 Y'2 Y'3
theorem qq48 {p c'1 : Prop} (Y'1 : c'1) (h : c'1 → p := by intro Y'1; (with_reducible repeat (first | apply Kd.R_alloc | apply Kd.R_drewN | apply Kd.R_drew)); exact Kd.R_mono Y'1 (fun _ hk => ⟨hk.1.2, ⟨hk.2, hk.1.1⟩⟩)) : p := h Y'1
theorem qq49 {p : Prop} (h : p := by rw [← hVS]; exact (show (4 : Tmp) ∉ [(31 : Tmp), (32 : Tmp), (33 : Tmp), (34 : Tmp), (35 : Tmp), (36 : Tmp), (37 : Tmp), (38 : Tmp), (39 : Tmp), (40 : Tmp), (41 : Tmp), (42 : Tmp), (43 : Tmp), (44 : Tmp), (45 : Tmp), (46 : Tmp), (47 : Tmp), (48 : Tmp), (49 : Tmp), (50 : Tmp), (51 : Tmp), (52 : Tmp), (8 : Tmp)] by decide)) : p := h
theorem qq50 {p : Prop} (h : p := by rw [← hVS]; exact (show (5 : Tmp) ∉ [(31 : Tmp), (32 : Tmp), (33 : Tmp), (34 : Tmp), (35 : Tmp), (36 : Tmp), (37 : Tmp), (38 : Tmp), (39 : Tmp), (40 : Tmp), (41 : Tmp), (42 : Tmp), (43 : Tmp), (44 : Tmp), (45 : Tmp), (46 : Tmp), (47 : Tmp), (48 : Tmp), (49 : Tmp), (50 : Tmp), (51 : Tmp), (52 : Tmp), (8 : Tmp)] by decide)) : p := h
theorem qq51 {p : Prop} (h : p := by rw [← hVS]; exact (show (6 : Tmp) ∉ [(31 : Tmp), (32 : Tmp), (33 : Tmp), (34 : Tmp), (35 : Tmp), (36 : Tmp), (37 : Tmp), (38 : Tmp), (39 : Tmp), (40 : Tmp), (41 : Tmp), (42 : Tmp), (43 : Tmp), (44 : Tmp), (45 : Tmp), (46 : Tmp), (47 : Tmp), (48 : Tmp), (49 : Tmp), (50 : Tmp), (51 : Tmp), (52 : Tmp), (8 : Tmp)] by decide)) : p := h
theorem qq52 {p : Prop} (h : p := by rw [← hVS]; exact (show (7 : Tmp) ∉ [(31 : Tmp), (32 : Tmp), (33 : Tmp), (34 : Tmp), (35 : Tmp), (36 : Tmp), (37 : Tmp), (38 : Tmp), (39 : Tmp), (40 : Tmp), (41 : Tmp), (42 : Tmp), (43 : Tmp), (44 : Tmp), (45 : Tmp), (46 : Tmp), (47 : Tmp), (48 : Tmp), (49 : Tmp), (50 : Tmp), (51 : Tmp), (52 : Tmp), (8 : Tmp)] by decide)) : p := h
theorem qq53 {p : Prop} (h : p := by repeat (first | exact Drawn0.refl _ | apply Drawn0.step)) : p := h
theorem qq54 {p : Prop} (h : p := by repeat (first | exact (by repeat (first | (with_reducible exact HR141.out) | (with_reducible refine Kd.C_alloc ?_ _) | (with_reducible refine Kd.C_drewN ?_ _) | (with_reducible refine Kd.C_drew ?_) | exact HR141.out)) | (with_reducible refine Kd.C_alloc ?_ _) | (with_reducible refine Kd.C_drewN ?_ _) | (with_reducible refine Kd.C_drew ?_))) : p := h
theorem qq55 {p : Prop} (h : p := by rw [hg]; exact (keep_size (w := w) (g := g) (row := none) qq17)) : p := h
theorem qq56 {p : Prop} (h : p := by rw [hg]; exact (keep_size (w := w) (g := g) (row := none) qq3)) : p := h
theorem qq57 {p : Prop} (h : p := by exact Kd.C_below HR0.out (by first | exact Below.refl _ _ | exact (Below.refl _ _).alloc (Nat.le_refl _) _)) : p := h
theorem qq58 {p : Prop} (h : p := by exact (fun k_ hk => ⟨Kd.fresh' (Kd.Q_lt (qq12 HO_5.out)) k_ hk, Kd.fresh' (Kd.R_lt (qq4 HO327.out)) k_ hk, Kd.fresh' (Kd.R_lt (qq4 HO339.out)) k_ hk⟩)) : p := h
theorem qq59 {p : Prop} (h : p := by rw [pairs_bad hi hj hj1.2.1 (HBAD)]; rfl) : p := h
theorem qq60 {p c'1 : Prop} (Y'1 : c'1) (h : c'1 → p := by intro Y'1; (with_reducible repeat (first | apply Kd.R_alloc | apply Kd.R_drewN | apply Kd.R_drew)); exact Kd.R_mono Y'1 (fun _ hk => ⟨⟨hk.1.1.2, hk.1.2⟩, hk.2⟩)) : p := h Y'1
theorem qq61 {p : Prop} (h : p := by exact Kd.C_below HR0.out ((Below.refl _ _).alloc (Nat.le_refl _) _)) : p := h
theorem qq62 {p c'1 c'2 : Prop} (Y'1 : c'1) (Y'2 : c'2) (h : c'1 → c'2 → p := by intro Y'1 Y'2; repeat (first | exact (Kd.C_below Y'1 Y'2) | (with_reducible refine Kd.C_alloc ?_ _) | (with_reducible refine Kd.C_drewN ?_ _) | (with_reducible refine Kd.C_drew ?_))) : p := h Y'1 Y'2
theorem qq63 {p c'1 : Prop} (Y'1 : c'1) (h : c'1 → p := by intro Y'1; (with_reducible repeat (first | apply Kd.R_alloc | apply Kd.R_drewN | apply Kd.R_drew)); exact Kd.R_mono Y'1 (fun _ hk => trivial)) : p := h Y'1
theorem qq64 {p : Prop} (h : p := by have := hS.2.2.2; dsimp only; omega) : p := h
theorem qq65 {p : Prop} (h : p := by (try simp only [List.map_toArray, List.map_cons, List.map_nil]); first | done | (simp only [hji8, hji9]; rfl) | rfl | (simp only [List.length_drop, List.length_take]; rfl)) : p := h
theorem qq66 {p : Prop} (h : p := by (with_reducible repeat (first | apply Kd.R_alloc | apply Kd.R_drewN | apply Kd.R_drew)); exact Kd.R_mono HO332.out (fun _ hk => ⟨hk.1.1.2, ⟨hk.1.2, hk.2⟩⟩)) : p := h
theorem qq67 {p : Prop} (h : p := by (with_reducible repeat (first | apply Kd.R_alloc | apply Kd.R_drewN | apply Kd.R_drew)); exact Kd.R_mono HO327.out (fun _ hk => ⟨hk.2, ⟨hk.1.2, hk.1.1⟩⟩)) : p := h
theorem qq68 {p : Prop} (h : p := by (with_reducible repeat (first | apply Kd.R_alloc | apply Kd.R_drewN | apply Kd.R_drew)); exact Kd.R_mono HO335.out (fun _ hk => ⟨hk.2.1, ⟨hk.2.2, hk.1⟩⟩)) : p := h
theorem qq69 {p : Prop} (h : p := by (with_reducible repeat (first | apply Kd.Q_alloc | apply Kd.Q_drewN | apply Kd.Q_drew)); exact Kd.Q_mono HO_5.out (fun _ hk => ⟨hk.1.1, ⟨hk.2, hk.1.2⟩⟩)) : p := h
theorem qq70 {p : Prop} (h : p := by exact (keep_size (w := w) (g := g) (row := none) qq3)) : p := h
theorem qq71 {p : Prop} (h : p := by rw [hg]; exact (below_size qq15)) : p := h
theorem qq72 {p : Prop} (h : p := by rw [← hVS]; exact (show (7 : Tmp) ∉ [(62 : Tmp), (63 : Tmp), (64 : Tmp), (65 : Tmp), (66 : Tmp), (67 : Tmp), (68 : Tmp), (2 : Tmp)] by decide)) : p := h
theorem qq73 {p : Prop} (h : p := by (with_reducible repeat (first | apply Kd.R_alloc | apply Kd.R_drewN | apply Kd.R_drew)); exact Kd.R_mono HO_3.out (fun _ hk => ⟨trivial, hk⟩)) : p := h
theorem qq74 {p : Prop} (h : p := by have := hb.size; simp at this; omega) : p := h
theorem qq75 {p : Prop} (h : p := by rw [← hV]; exact ⟨_, _, rfl, fun h => absurd h (by decide), fun h => absurd h (by decide), fun _ h => absurd h (by decide), fun _ => rfl⟩) : p := h
theorem qq76 {p : Prop} (h : p := by rwa [List.getElem?_set_ne (by decide)] at h) : p := h
theorem qq77 {p c'1 : Prop} (Y'1 : c'1) (h : c'1 → p := by intro Y'1; rw [hg]; exact Nat.ne_of_lt (blk_lt Y'1)) : p := h Y'1
theorem qq78 {p : Prop} (h : p := by rw [hg]; exact below_size HB.out) : p := h
theorem qq79 {p : Prop} (h : p := by simp [results, Try.results76, go_sem, hcD]; rfl) : p := h
theorem qq80 {p : Prop} (h : p := by have := keep L u u' WW.drew 4 (by decide) hVL; rw [← hVS] at this ⊢; exact this) : p := h
theorem qq81 {p : Prop} (h : p := by exact (fun _ _ => trivial)) : p := h
theorem qq82 {p : Prop} (h : p := by have := keep L u u' w' 0 (by decide) hVL; rw [← hVS] at this ⊢; exact this) : p := h
theorem qq83 {p : Prop} (h : p := by have := keep L u u' w' 1 (by decide) hVL; rw [← hVS] at this ⊢; exact this) : p := h
theorem qq84 {p : Prop} (h : p := by have := keep L u u' w' 2 (by decide) hVL; rw [← hVS] at this ⊢; exact this) : p := h
theorem qq85 {p : Prop} (h : p := by have := keep L u u' w' 3 (by decide) hVL; rw [← hVS] at this ⊢; exact this) : p := h
end Go.Proofs.Ytgdhgncdpmalcaa.Q
namespace Go.Proofs.Ytgdhgncdpmalcaa.Q
open Go.RowKit Go.Proofs.YtgdhgncdpmalcaaW.PrintWords Go.Proofs.YtgdhgncdpmalcaaW.PrintLast Go.Proofs.YtgdhgncdpmalcaaW.PrintMore
attribute [local go_sem] max2_int min2_int max_two min_two max_three min_three max_four min_four
set_option linter.unusedVariables false
set_option linter.unusedSimpArgs false

def errW : Option Int → Value
  | none => .nilIface
  | some c => .iface 0 (.int .i64 c)
theorem errW_none : errW none = .nilIface := rfl
theorem errW_some (c : Int) : errW (some c) = .iface 0 (.int .i64 c) := rfl

theorem info5 : (Try.prog.info? 5).map (fun i => (i.zero, i.size, i.bytes)) = some (some (.int .u8 0), 1, 1) := by kernel_rfl
theorem info32 : (Try.prog.info? 32).map (fun i => (i.zero, i.size, i.bytes)) = some (some (.agg #[(.int .i64 0), (.int .i64 0)]), 2, 16) := by kernel_rfl
-- the values' own types
/-! #### struct type 32 -/
structure S32 where
  f0 : Int
  f1 : Int
def z32 : S32 := ⟨(0 : Int), (0 : Int)⟩
def k32 : Kd S32 := Kd.iso (Kd.pair (Kd.int .i64) (Kd.int .i64)) (fun x : S32 => (x.f0, x.f1))
theorem k32_open {w : World} {x : S32} {cs : List Value} (h : k32.K w x cs) : cs = [.int .i64 x.f0, .int .i64 x.f1] := by
  obtain ⟨_, _, rfl, rfl, rfl⟩ := h
  exact rfl
theorem k32_openM {w : World} {base : Nat} {ok : Nat → Prop} {x : S32} {cs : List Value} (h : k32.M w base ok x cs) : cs = [.int .i64 x.f0, .int .i64 x.f1] := by
  obtain ⟨_, _, rfl, rfl, rfl⟩ := h
  exact rfl
theorem k32_mkM (w : World) (base : Nat) (ok : Nat → Prop) (x : S32)  : k32.M w base ok x [.int .i64 x.f0, .int .i64 x.f1] := ⟨[.int .i64 x.f0], [.int .i64 x.f1], rfl, rfl, rfl⟩
def rd_T32 (xs : List S32) (i : Int) : S32 := xs.getD i.toNat z32
theorem at_T32 {w : World} {A : Option Addr} {n : Nat} {xs : List S32} (h : Kd.C k32 w A n xs) (i : Int) (h0 : 0 ≤ i) (h1 : i < n) : ∃ ad , A = some ad ∧ w.cell? (ad.add (i.toNat * 2)) = some (.int .i64 (rd_T32 xs i).f0) ∧ w.cell? ⟨(ad.add (i.toNat * 2)).block, (ad.add (i.toNat * 2)).off + 1, none⟩ = some (.int .i64 (rd_T32 xs i).f1) := by
  obtain ⟨ad, c, e, _, hK, hc0⟩ := Kd.C_get h z32 i h0 h1
  have hc : ∀ j u, c[j]? = some u → w.cell? (ad.add (i.toNat * 2 + j)) = some u := hc0
  obtain rfl := k32_open hK
  exact ⟨ad, e, hc 0 _ rfl, by rw [← add_field _ _ 1 (by omega)]; exact hc 1 _ rfl⟩

end Go.Proofs.Ytgdhgncdpmalcaa.Q
namespace Go.Proofs.Ytgdhgncdpmalcaa.Q
open Go.RowKit Go.Proofs.YtgdhgncdpmalcaaW.PrintWords Go.Proofs.YtgdhgncdpmalcaaW.PrintLast Go.Proofs.YtgdhgncdpmalcaaW.PrintMore
attribute [local go_sem] max2_int min2_int max_two min_two max_three min_three max_four min_four
set_option linter.unusedVariables false
set_option linter.unusedSimpArgs false

/-! ### laws_begunAt: function 15 -/
def laws_begunAt.f (l0 : List (S32)) (a1 : Int) : Option ((List (S32))) := (some (([] : List (S32)) : List (S32))).bind fun y130 => (if 0 ≤ a1 then (if a1 ≤ (l0.length : Int) then ((some (l0.drop (a1 : Int).toNat : List (S32))).bind fun y133 => (if y130.length + y133.length < 8796093022208 then ((some (y130 ++ y133 : List (S32))).bind fun y137 => ((some (l0.take (a1 : Int).toNat : List (S32))).bind fun y140 => (if y137.length + y140.length < 8796093022208 then (some (y137 ++ y140)) else (none)))) else (none))) else (none)) else (none))
def laws_begunAt.T1 : Bool × List (List Nat × List Nat) := (true, [([], []), ([], []), ([], []), ([1, 2], [1, 2]), ([0, 3], [0, 3]), ([], []), ([], []), ([5, 6], [5, 6]), ([4, 7, 4], [4, 7]), ([8, 8, 0, 1, 2, 3, 4, 5, 6, 7, 8], [8])])
def laws_begunAt.B1 : List Nat := [0, 0, 0, 6, 15, 0, 0, 96, 255, 511]
theorem laws_begunAt.tab1 : rtab .any (opsOf Try.f15 1) = laws_begunAt.T1 := by kernel_rfl
theorem laws_begunAt.bits1 : waitsOk laws_begunAt.T1.2 laws_begunAt.B1 = true := by kernel_rfl
set_option maxHeartbeats 8000000 in
set_option maxRecDepth 100000 in
theorem laws_begunAt.calls (A0 : Option Addr) (c0 : Nat) (l0 : List (S32)) (a1 : Int) (r : List (S32)) (w : World) (hr0 : Kd.C k32 w A0 l0.length l0) (hc0 : l0.length ≤ c0) (h : laws_begunAt.f l0 a1 = some r) :
    Calls Try.prog 15 #[.slice A0 l0.length c0, .int .i64 a1] w fun e w' => ∃ v0_ : Value, e = .returned (v0_) ∧ Kd.R k32 32 w' w.heap.size (fun _ => True) v0_ r ∧ Below w.heap.size w w' := by
  have HR0 := Aside0.mk hr0
  have HC0 := Aside0.mk hc0
  clear hr0 hc0
  have HB := Aside0.mk (Below.refl w.heap.size w)
  have H : ((some (([] : List (S32)) : List (S32))).bind fun y130 => (if 0 ≤ a1 then (if a1 ≤ (l0.length : Int) then ((some (l0.drop (a1 : Int).toNat : List (S32))).bind fun y133 => (if y130.length + y133.length < 8796093022208 then ((some (y130 ++ y133 : List (S32))).bind fun y137 => ((some (l0.take (a1 : Int).toNat : List (S32))).bind fun y140 => (if y137.length + y140.length < 8796093022208 then (some (y137 ++ y140)) else (none)))) else (none))) else (none)) else (none))) = some r := h
  clear h
  obtain ⟨y130, hy130⟩ : ∃ y_ : List (S32), y_ = (([] : List (S32))) := ⟨_, rfl⟩
  replace H : (if 0 ≤ a1 then (if a1 ≤ (l0.length : Int) then ((some (l0.drop (a1 : Int).toNat : List (S32))).bind fun y133 => (if y130.length + y133.length < 8796093022208 then ((some (y130 ++ y133 : List (S32))).bind fun y137 => ((some (l0.take (a1 : Int).toNat : List (S32))).bind fun y140 => (if y137.length + y140.length < 8796093022208 then (some (y137 ++ y140)) else (none)))) else (none))) else (none)) else (none)) = some r := by first | (rw [hy130]; with_reducible exact H) | (have H2_ := (Option.bind_some _ _).symm.trans H; rw [hy130]; with_reducible exact H2_) | (have H2_ := (Option.bind_some _ _).symm.trans H; with_reducible exact H2_) | with_reducible exact H | (rw [hy130]; exact H) | exact H
  have Ny130 := Aside0.mk hy130
  clear hy130
  by_cases c3 : 0 ≤ a1
  · rw [if_pos c3] at H
    have c3b0 := eq_true c3
    have c3b1 : decide (0 ≤ a1) = true := decide_eq_true c3
    clear c3
    by_cases c4 : a1 ≤ (l0.length : Int)
    · rw [if_pos c4] at H
      have c4b0 := eq_true c4
      have c4b1 : decide (a1 ≤ (l0.length : Int)) = true := decide_eq_true c4
      clear c4
      obtain ⟨y133, hy133⟩ : ∃ y_ : List (S32), y_ = (l0.drop (a1 : Int).toNat) := ⟨_, rfl⟩
      replace H : (if y130.length + y133.length < 8796093022208 then ((some (y130 ++ y133 : List (S32))).bind fun y137 => ((some (l0.take (a1 : Int).toNat : List (S32))).bind fun y140 => (if y137.length + y140.length < 8796093022208 then (some (y137 ++ y140)) else (none)))) else (none)) = some r := by first | (rw [hy133]; with_reducible exact H) | (have H2_ := (Option.bind_some _ _).symm.trans H; rw [hy133]; with_reducible exact H2_) | (have H2_ := (Option.bind_some _ _).symm.trans H; with_reducible exact H2_) | with_reducible exact H | (rw [hy133]; exact H) | exact H
      have Ny133 := Aside0.mk hy133
      clear hy133
      by_cases c5 : y130.length + y133.length < 8796093022208
      · rw [if_pos c5] at H
        have LMc5 := Aside0.mk c5
        clear c5
        obtain ⟨y137, hy137⟩ : ∃ y_ : List (S32), y_ = (y130 ++ y133) := ⟨_, rfl⟩
        replace H : ((some (l0.take (a1 : Int).toNat : List (S32))).bind fun y140 => (if y137.length + y140.length < 8796093022208 then (some (y137 ++ y140)) else (none))) = some r := by first | (rw [hy137]; with_reducible exact H) | (have H2_ := (Option.bind_some _ _).symm.trans H; rw [hy137]; with_reducible exact H2_) | (have H2_ := (Option.bind_some _ _).symm.trans H; with_reducible exact H2_) | with_reducible exact H | (rw [hy137]; exact H) | exact H
        have Ny137 := Aside0.mk hy137
        clear hy137
        have c6b0 := eq_true (of_decide_eq_true qq18 : 0 ≤ a1)
        have c7b0 := eq_true (of_decide_eq_true qq18 : a1 ≤ (l0.length : Int))
        obtain ⟨y140, hy140⟩ : ∃ y_ : List (S32), y_ = (l0.take (a1 : Int).toNat) := ⟨_, rfl⟩
        replace H : (if y137.length + y140.length < 8796093022208 then (some (y137 ++ y140)) else (none)) = some r := by first | (rw [hy140]; with_reducible exact H) | (have H2_ := (Option.bind_some _ _).symm.trans H; rw [hy140]; with_reducible exact H2_) | (have H2_ := (Option.bind_some _ _).symm.trans H; with_reducible exact H2_) | with_reducible exact H | (rw [hy140]; exact H) | exact H
        have Ny140 := Aside0.mk hy140
        clear hy140
        by_cases c8 : y137.length + y140.length < 8796093022208
        · rw [if_pos c8] at H
          have LMc8 := Aside0.mk c8
          clear c8
          obtain ⟨y144, hy144⟩ : ∃ y_ : List (S32), y_ = (y137 ++ y140) := ⟨_, rfl⟩
          replace H : (some y144) = some r := by first | (rw [hy144]; with_reducible exact H) | (have H2_ := (Option.bind_some _ _).symm.trans H; rw [hy144]; with_reducible exact H2_) | (have H2_ := (Option.bind_some _ _).symm.trans H; with_reducible exact H2_) | with_reducible exact H | (rw [hy144]; exact H) | exact H
          have Ny144 := Aside0.mk hy144
          clear hy144
          obtain rfl := Option.some.inj H
          go_enter Try.func15, Try.ntmps15
          try go_wp2
          have n0_ := Aside0.mk (below_drew1 HB.out)
          clear HB
          have HB := n0_
          clear n0_
          have q10 : (a1 : Int) ≤ ((l0.length : Int) : Int) := of_decide_eq_true qq18
          obtain ⟨i010, hi010, _, hsz10, _⟩ := info_parts info32
          have hroom10 : l0.length ≤ c0 := HC0.out
          have hC10 : Kd.C k32 _ A0 l0.length l0 := HR0.out
          have q010 : (0 : Int) ≤ (a1 : Int) := of_decide_eq_true qq18
          have hcut10 := cut_from (P := Try.prog) 23 32 .i64 Try.underlying23 hi010 2 hsz10 A0 l0.length c0 a1 q010 q10
          have hr10 := Kd.C_drop (m := (a1 : Int).toNat) (c := c0) hC10 (by omega) hroom10
          obtain ⟨A10, hA10⟩ : ∃ Az_, Az_ = (if c0 = (a1 : Int).toNat then A0 else (A0 : Option Addr).map (·.add ((a1 : Int).toNat * 2))) := ⟨_, rfl⟩
          obtain ⟨c10, hc10⟩ : ∃ cz_, cz_ = c0 - (a1 : Int).toNat := ⟨_, rfl⟩
          have hy10 : y133.length = l0.length - (a1 : Int).toNat := (by rw [Ny133.out, List.length_drop] <;> omega)
          rw [show (l0).drop (a1 : Int).toNat = y133 from Ny133.out.symm] at hr10
          replace hr10 : Kd.C k32 _ A10 y133.length y133 := (by rw [hA10]; exact hr10)
          rw [← hy10, ← hA10, ← hc10] at hcut10
          have HR136 := Aside0.mk hr10
          have HC136 := Aside0.mk (show y133.length ≤ c10 from by rw [hy10, hc10]; exact Nat.sub_le_sub_right hroom10 _)
          clear hr10 hC10 hroom10 hi010 hsz10 hc10
          have KY10 := Aside0.mk hy10
          have KA10 := Aside0.mk hA10
          clear hy10 hA10
          replace q10 := eq_true q10
          have q11 : (a1 : Int) ≤ ((l0.length : Int) : Int) := of_decide_eq_true qq18
          obtain ⟨i011, hi011, _, hsz11, _⟩ := info_parts info32
          have hroom11 : l0.length ≤ c0 := HC0.out
          have hC11 : Kd.C k32 _ A0 l0.length l0 := HR0.out
          have hcut11 := cut_to (P := Try.prog) 23 32 .i64 Try.underlying23 hi011 A0 l0.length c0 a1 (of_decide_eq_true qq18) q11 hroom11
          have hr11 := Kd.C_take (m := (a1 : Int).toNat) hC11 (by omega)
          have hy11 : y140.length = (a1 : Int).toNat := (by rw [Ny140.out, List.length_take]; omega)
          rw [← Ny140.out] at hr11
          rw [← hy11] at hcut11
          have HR143 := Aside0.mk hr11
          have HC143 := Aside0.mk (show y140.length ≤ c0 from by omega)
          clear hr11 hC11 hroom11 hi011 hsz11
          have KY11 := Aside0.mk hy11
          clear hy11
          replace q11 := eq_true q11
          refine start_ (n := 10) (S := fun w' => True) (ds := []) #[false, false, false, false, false, false, false, false, false, false] (by kernel_rfl) rfl rfl trivial (fun hHeld => ?_); refine with_tabW laws_begunAt.tab1 laws_begunAt.bits1 (fun HT_ HW_ => ?_)
          generalize w.drew = w9 at HB HR136 HR143 hHeld ⊢
          refine pure_ (i := 1) (N := some 6) #[false, true, false, false, false, false, false, false, false, false] rfl rfl (any_of HT_.out (by kernel_rfl)) (fun _ _ _ h => h) (Or.inl ⟨by rfl, pA_⟩) pB_ ?_
          refine pure_ (i := 2) (N := some 7) #[false, true, true, false, false, false, false, false, false, false] rfl rfl (any_of HT_.out (by kernel_rfl)) (fun _ _ _ h => h) (Or.inl ⟨by rfl, pA_⟩) pB_ ?_
          refine pure_ (i := 3) (N := some 8) #[false, true, true, true, false, false, false, false, false, false] rfl rfl (any_of HT_.out (by kernel_rfl)) (fun _ _ _ h => h) (Or.inl ⟨by rfl, pA_⟩) pB_ ?_
          refine pure_ (i := 5) (N := some 10) #[false, true, true, true, false, true, false, false, false, false] rfl rfl (any_of HT_.out (by kernel_rfl)) (fun _ _ _ h => h) (Or.inl ⟨by rfl, pA_⟩) pB_ ?_
          refine pure_ (i := 6) (N := some 11) #[false, true, true, true, false, true, true, false, false, false] rfl rfl (any_of HT_.out (by kernel_rfl)) (fun _ _ _ h => h) (Or.inl ⟨by rfl, pA_⟩) pB_ ?_
          refine pure_ (i := 7) (N := some 12) #[false, true, true, true, false, true, true, true, false, false] rfl rfl (any_of HT_.out (by kernel_rfl)) (fun _ _ _ h => h) (Or.inl ⟨by rfl, pA_⟩) pB_ ?_
          refine one_ (i := 0) (N := some 5) #[true, true, true, true, false, true, true, true, false, false] rfl rfl (one_of HT_.out (by kernel_rfl)) (by decide) (fun K hK => ?_)
          refine Kd.R_lit_step k32 _ 32 ?hg (N := 5) ?hd (xs := ([] : List (S32))) (inner := []) (ok := fun _ => True) (okp := fun _ => True) ?hr ?hp (fun _ hk => hk) trivial (Below.refl _ _) (Nat.le_refl _) (by simp) ?_; (case hd => rfl); (case hg => rfl); (case hr => exact qq21); (case hp => exact (Reps.none _ _))
          intro v131 w12 ho13 hb hg_ hnew_
          clear hg_ hnew_
          (first | rw [← Ny130.out] at ho13 | (simp only [Int.reduceToNat] at ho13; rw [← Ny130.out] at ho13))
          have n0_ := Aside0.mk (Kd.R_lower ho13 (below_size qq1))
          have n1_ := Aside0.mk (below_step qq1 hb)
          clear HB
          have HO132 := n0_
          have HB := n1_
          clear n0_ n1_
          clear hb ho13
          refine hK.out _ _ trivial (fun hHeld => ?_)
          clear hK K
          refine norm_ (a' := ?_) ?_ ?_
          rotate_left
          · show Act.put _ (some 5) _ = _
            simp only [Act.put, List.setIfInBounds_toArray, List.set_cons_zero, List.set_cons_succ, i64_w, i32_w]
            rfl
          refine one_ (i := 4) (N := some 9) #[true, true, true, true, true, true, true, true, false, false] rfl rfl (one_of HT_.out (by kernel_rfl)) (by decide) (fun K hK => ?_)
          refine Kd.R_append_rows_step k32 (w0 := w) w.heap.size (by rfl) (.tmp 5) (.tmp 8) 23 32 (.agg #[(.int .i64 0), (.int .i64 0)]) 16 rfl Try.underlying23 info32 rfl (by decide) (by omega) v131 y130 y133 _ _ _ (fun _ => True) (fun _ => False) rfl rfl ?aO ?aR (fun _ _ h => h) (fun _ h => h.elim) ?aF ?aB ?aS ?aL ?_
          (case aR => exact qq62 HR136.out HB.out)
          (case aB => exact qq1)
          (case aF => exact qq81)
          (case aO => exact (qq4 HO132.out))
          (case aS => exact (below_size qq1))
          (case aL => have := LMc5.out; omega)
          intro v138 w14 ho hb hg hat
          rw [← Ny137.out] at ho
          have n0_ := Aside0.mk (hb)
          have n1_ := Aside0.mk (ho)
          clear HB
          clear HO132
          have HB := n0_
          have HO139 := n1_
          clear n0_ n1_
          clear ho hb hg hat
          refine hK.out _ _ trivial (fun hHeld => ?_)
          clear hK K
          refine norm_ (a' := ?_) ?_ ?_
          rotate_left
          · show Act.put _ (some 9) _ = _
            simp only [Act.put, List.setIfInBounds_toArray, List.set_cons_zero, List.set_cons_succ, i64_w, i32_w]
            rfl
          refine one_ (i := 8) (N := some 13) #[true, true, true, true, true, true, true, true, true, false] rfl rfl (one_of HT_.out (by kernel_rfl)) (by decide) (fun K hK => ?_)
          refine Kd.R_append_rows_step k32 (w0 := w) w.heap.size (by rfl) (.tmp 9) (.tmp 12) 23 32 (.agg #[(.int .i64 0), (.int .i64 0)]) 16 rfl Try.underlying23 info32 rfl (by decide) (by omega) v138 y137 y140 _ _ _ (fun _ => True) (fun _ => False) rfl rfl ?aO ?aR (fun _ _ h => h) (fun _ h => h.elim) ?aF ?aB ?aS ?aL ?_
          (case aR => exact qq62 HR143.out HB.out)
          (case aB => exact qq1)
          (case aF => exact qq81)
          (case aO => exact (qq4 HO139.out))
          (case aS => exact (below_size qq1))
          (case aL => have := LMc8.out; omega)
          intro v145 w15 ho hb hg hat
          rw [← Ny144.out] at ho
          have n0_ := Aside0.mk (hb)
          have n1_ := Aside0.mk (ho)
          clear HB
          clear HO139
          have HB := n0_
          have HO146 := n1_
          clear n0_ n1_
          clear ho hb hg hat
          refine hK.out _ _ trivial (fun hHeld => ?_)
          clear hK K
          refine norm_ (a' := ?_) ?_ ?_
          rotate_left
          · show Act.put _ (some 13) _ = _
            simp only [Act.put, List.setIfInBounds_toArray, List.set_cons_zero, List.set_cons_succ, i64_w, i32_w]
            rfl
          refine pure_ (i := 9) (N := some 4) #[true, true, true, true, true, true, true, true, true, true] rfl rfl (any_of HT_.out (by kernel_rfl)) (fun _ _ _ h => h) (Or.inl ⟨by rfl, pA_⟩) pB_ ?_
          refine done_ (done_of HT_.out (by kernel_rfl)) ?_
          try go_wp2
          go_ret
          exact ⟨_, qq11, qq4 HO146.out, qq1⟩
        · rw [if_neg c8] at H
          exact absurd H (by simp)
      · rw [if_neg c5] at H
        exact absurd H (by simp)
    · rw [if_neg c4] at H
      exact absurd H (by simp)
  · rw [if_neg c3] at H
    exact absurd H (by simp)

/-! ### spec_l6In: function 67 -/
def spec_l6In.f (a0 : Int) (a1 : Int) (a2 : Int) : Option (Bool) := if a0 ≥ a1 then (some (decide (a0 ≤ a2))) else (some false)
set_option maxHeartbeats 8000000 in
set_option maxRecDepth 100000 in
theorem spec_l6In.calls (a0 : Int) (a1 : Int) (a2 : Int) (r : Bool) (w : World) (h : spec_l6In.f a0 a1 a2 = some r) :
    Calls Try.prog 67 #[.int .i64 a0, .int .i64 a1, .int .i64 a2] w fun e w' => e = .returned (.bool r) ∧ Drawn0 w w' := by
  have H : (if a0 ≥ a1 then (some (decide (a0 ≤ a2))) else (some false)) = some r := h
  clear h
  by_cases c4 : a0 ≥ a1
  · rw [if_pos c4] at H
    have c4b0 : decide (a1 ≤ a0) = true := decide_eq_true c4
    clear c4
    obtain rfl := Option.some.inj H
    go_enter Try.func67, Try.ntmps67
    go_wp2
    go_ret
    exact ⟨qq23, qq53⟩
  · rw [if_neg c4] at H
    have c4b0 : decide (a1 ≤ a0) = false := decide_eq_false c4
    clear c4
    obtain rfl := Option.some.inj H
    go_enter Try.func67, Try.ntmps67
    go_wp2
    go_ret
    exact ⟨qq23, qq53⟩

/-! ### spec_PointValid: function 57 -/
def spec_PointValid.f (a0_0 : Int) (a0_1 : Int) : Option (Bool) := (spec_l6In.f a0_0 (-10000) 10000).bind fun t199 => (if t199 = true then ((spec_l6In.f a0_1 (-10000) 10000).bind fun t200 => (some t200)) else (some false))
set_option maxHeartbeats 8000000 in
set_option maxRecDepth 100000 in
theorem spec_PointValid.calls (a0_0 : Int) (a0_1 : Int) (r : Bool) (w : World) (h : spec_PointValid.f a0_0 a0_1 = some r) :
    Calls Try.prog 57 #[.agg #[.int .i64 a0_0, .int .i64 a0_1]] w fun e w' => e = .returned (.bool r) ∧ Below w.heap.size w w' := by
  have hu32 := Try.underlying32
  have HB := Aside0.mk (Below.refl w.heap.size w)
  have H : ((spec_l6In.f a0_0 (-10000) 10000).bind fun t199 => (if t199 = true then ((spec_l6In.f a0_1 (-10000) 10000).bind fun t200 => (some t200)) else (some false))) = some r := h
  clear h
  replace H := Option.bind_eq_some_iff.mp H
  obtain ⟨t199, A20, H⟩ := H
  replace H : (if t199 = true then ((spec_l6In.f a0_1 (-10000) 10000).bind fun t200 => (some t200)) else (some false)) = some r := H
  have A2 := Aside0.mk A20
  clear A20
  by_cases c3 : t199 = true
  · subst c3
    have H1 : ((spec_l6In.f a0_1 (-10000) 10000).bind fun t200 => (some t200)) = some r := by rw [if_pos rfl] at H; exact H
    clear H
    have H := H1
    clear H1
    replace H := Option.bind_eq_some_iff.mp H
    obtain ⟨t200, A40, H⟩ := H
    replace H : (some t200) = some r := H
    have A4 := Aside0.mk A40
    clear A40
    obtain rfl := Option.some.inj H
    go_enter Try.func57, Try.ntmps57
    go_wp2_with (first | ((with_reducible refine gate_dst (N := 1) rfl ?_); refine box_event ?hg (N := 1) ?hd (cs := #[.int .i64 a0_0, .int .i64 a0_1]) (t := 32) ?hr ?_; (case hd => rfl); (case hg => rfl); (case hr => exact qq21); intro gb198 hg w5 hbox hb; have n0_ := Aside0.mk (below_step qq1 hb); have n1_ := Aside0.mk (hbox); have n2_ := Aside0.mk ((qq31 : w.heap.size ≤ gb198)); have n3_ := Aside0.mk ((qq31 : w.heap.size ≤ gb198)); clear HB; have HB := n0_; have BK198 := n1_; have GW198 := n2_; have GE198 := n3_; clear n0_ n1_ n2_ n3_; clear hb hbox hg; have hcz6_0 : w5.cell? ⟨gb198, 0, none⟩ = some (.int .i64 a0_0) := (blk_cell BK198.out 0).trans rfl; have hcz6_1 : w5.cell? ⟨gb198, 1, none⟩ = some (.int .i64 a0_1) := (blk_cell BK198.out 1).trans rfl; have hfz6_0 := blk_frozen BK198.out 0; have hfz6_1 := blk_frozen BK198.out 1) | ((with_reducible refine gate_callee (f := 67) rfl ?_); refine goesL_ (some 5) rfl rfl Try.func67 (by kernel_rfl) rfl #[.int .i64 a0_0, .int .i64 (-10000), .int .i64 10000] rfl qq2 ?_; (with_reducible refine (spec_l6In.calls a0_0 (-10000) 10000 true _ A2.out).mono ?_); rintro e w' ⟨rfl, ⟨nd, rfl⟩⟩; refine ⟨_, rfl, ?_⟩) | (go_at_call 67; (with_reducible refine (spec_l6In.calls a0_1 (-10000) 10000 t200 _ A4.out).mono ?_); rintro e w' ⟨rfl, ⟨nd, rfl⟩⟩))
    go_ret
    exact ⟨qq11, qq8 HB.out GE198.out⟩
  · replace c3 := Bool.eq_false_iff.mpr c3
    subst c3
    have H1 : (some false) = some r := by rw [if_neg (show ¬ (false = true) by decide)] at H; exact H
    clear H
    have H := H1
    clear H1
    obtain rfl := Option.some.inj H
    go_enter Try.func57, Try.ntmps57
    go_wp2_with (first | ((with_reducible refine gate_dst (N := 1) rfl ?_); refine box_event ?hg (N := 1) ?hd (cs := #[.int .i64 a0_0, .int .i64 a0_1]) (t := 32) ?hr ?_; (case hd => rfl); (case hg => rfl); (case hr => exact qq21); intro gb198 hg w7 hbox hb; have n0_ := Aside0.mk (below_step qq1 hb); have n1_ := Aside0.mk (hbox); have n2_ := Aside0.mk ((qq31 : w.heap.size ≤ gb198)); have n3_ := Aside0.mk ((qq31 : w.heap.size ≤ gb198)); clear HB; have HB := n0_; have BK198 := n1_; have GW198 := n2_; have GE198 := n3_; clear n0_ n1_ n2_ n3_; clear hb hbox hg; have hcz8_0 : w7.cell? ⟨gb198, 0, none⟩ = some (.int .i64 a0_0) := (blk_cell BK198.out 0).trans rfl; have hcz8_1 : w7.cell? ⟨gb198, 1, none⟩ = some (.int .i64 a0_1) := (blk_cell BK198.out 1).trans rfl; have hfz8_0 := blk_frozen BK198.out 0; have hfz8_1 := blk_frozen BK198.out 1) | ((with_reducible refine gate_callee (f := 67) rfl ?_); refine goesL_ (some 5) rfl rfl Try.func67 (by kernel_rfl) rfl #[.int .i64 a0_0, .int .i64 (-10000), .int .i64 10000] rfl qq2 ?_; (with_reducible refine (spec_l6In.calls a0_0 (-10000) 10000 false _ A2.out).mono ?_); rintro e w' ⟨rfl, ⟨nd, rfl⟩⟩; refine ⟨_, rfl, ?_⟩))
    go_ret
    exact ⟨qq11, qq8 HB.out GE198.out⟩

/-! ### spec_l31Points: function 45 -/
def spec_l31Points.l0 : Nat → List (S32) → Int → Option (Bool)
  | 0, _, _ => none
  | k + 1, x0, x3 => if x3 < (x0.length : Int) then (if 0 ≤ x3 then ((spec_PointValid.f ((rd_T32 x0 x3).f0) ((rd_T32 x0 x3).f1)).bind fun t202 => (if t202 = true then (spec_l31Points.l0 k x0 (wrap64 (x3 + 1))) else (some false))) else (none)) else ((spec_l6In.f (x0.length : Int) 3 12).bind fun t203 => (some t203))
def spec_l31Points.f (k : Nat) (l0 : List (S32)) : Option (Bool) := spec_l31Points.l0 k l0 0
set_option maxHeartbeats 8000000 in
set_option maxRecDepth 100000 in
theorem spec_l31Points.calls (k : Nat) (A0 : Option Addr) (c0 : Nat) (l0 : List (S32)) (r : Bool) (w : World) (hr0 : Kd.C k32 w A0 l0.length l0) (hc0 : l0.length ≤ c0) (h : spec_l31Points.f k l0 = some r) :
    Calls Try.prog 45 #[.slice A0 l0.length c0] w fun e w' => e = .returned (.bool r) ∧ Below w.heap.size w w' := by
  have hu32 := Try.underlying32
  have HR0 := Aside0.mk hr0
  have HC0 := Aside0.mk hc0
  clear hr0 hc0
  have HB := Aside0.mk (Below.refl w.heap.size w)
  have H : (spec_l31Points.l0 k l0 0) = some r := h
  clear h
  have H' := Aside0.mk H
  clear H
  go_enter Try.func45, Try.ntmps45
  go_wp2
  go_loopg [3] k (fun kq v3 w' => ∃ (x3_1 : Int), v3 = .int .i64 x3_1 ∧ Aside0 (spec_l31Points.l0 kq l0 x3_1 = some r) ∧ Aside0 (kq ≤ k) ∧ Aside0 (Below w.heap.size w w'))
  case atStart => exact ⟨(0), qq23, H', ⟨Nat.le_refl _⟩, ⟨qq1⟩⟩
  case round =>
    clear H'
    obtain ⟨x3_1, rfl, HA, HK1, HB⟩ := hrel
    cases gk with
    | zero => exact absurd HA.out (by simp [spec_l31Points.l0])
    | succ k1 =>
      have H := HA.out
      clear HA
      simp only [spec_l31Points.l0] at H
      by_cases c2 : x3_1 < (l0.length : Int)
      · rw [if_pos c2] at H
        have c2b0 : decide (x3_1 < (l0.length : Int)) = true := decide_eq_true c2
        clear c2
        by_cases c3 : 0 ≤ x3_1
        · rw [if_pos c3] at H
          have c3b0 : decide (0 ≤ x3_1) = true := decide_eq_true c3
          clear c3
          replace H := Option.bind_eq_some_iff.mp H
          obtain ⟨t202, A40, H⟩ := H
          replace H : (if t202 = true then (spec_l31Points.l0 k1 l0 (wrap64 (x3_1 + 1))) else (some false)) = some r := H
          have A4 := Aside0.mk A40
          clear A40
          by_cases c5 : t202 = true
          · subst c5
            have H1 : (spec_l31Points.l0 k1 l0 (wrap64 (x3_1 + 1))) = some r := by rw [if_pos rfl] at H; exact H
            clear H
            have H := H1
            clear H1
            have H' := Aside0.mk H
            clear H
            have p201 : 0 ≤ (x3_1 : Int) := of_decide_eq_true qq18
            have q201 : x3_1 < (l0.length : Int) := of_decide_eq_true qq18
            obtain ⟨ad201, e201, hx201_0, hx201_1⟩ := at_T32 HR0.out x3_1 p201 q201
            cases e201
            replace hx201_0 := (HB.out.cell (World.block_lt_of_cell? w _ hx201_0)).trans hx201_0
            replace hx201_1 := (HB.out.cell (World.block_lt_of_cell? w _ hx201_1)).trans hx201_1
            replace p201 := eq_true p201
            replace q201 := eq_true q201
            go_wp2_with (first | ((with_reducible refine gate_callee (f := 57) rfl ?_); refine goesL_ (some 14) rfl rfl Try.func57 (by kernel_rfl) rfl #[.agg #[.int .i64 ((rd_T32 l0 x3_1).f0), .int .i64 ((rd_T32 l0 x3_1).f1)]] rfl qq2 ?_; (with_reducible refine (spec_PointValid.calls ((rd_T32 l0 x3_1).f0) ((rd_T32 l0 x3_1).f1) true _ A4.out).mono ?_); rintro e w6 ⟨rfl, hb⟩; refine ⟨_, rfl, ?_⟩; have n0_ := Aside0.mk (below_step qq1 hb); clear HB; have HB := n0_; clear n0_; (try clear hb); (try clear hb2); (try clear hk); (try clear hi)))
            go_roundg k1
            case measure => have := HK1.out; omega
            case rel => exact ⟨(wrap64 (x3_1 + 1)), qq23, H', ⟨by have := HK1.out; omega⟩, ⟨qq1⟩⟩
          · replace c5 := Bool.eq_false_iff.mpr c5
            subst c5
            have H1 : (some false) = some r := by rw [if_neg (show ¬ (false = true) by decide)] at H; exact H
            clear H
            have H := H1
            clear H1
            obtain rfl := Option.some.inj H
            have p201 : 0 ≤ (x3_1 : Int) := of_decide_eq_true qq18
            have q201 : x3_1 < (l0.length : Int) := of_decide_eq_true qq18
            obtain ⟨ad201, e201, hx201_0, hx201_1⟩ := at_T32 HR0.out x3_1 p201 q201
            cases e201
            replace hx201_0 := (HB.out.cell (World.block_lt_of_cell? w _ hx201_0)).trans hx201_0
            replace hx201_1 := (HB.out.cell (World.block_lt_of_cell? w _ hx201_1)).trans hx201_1
            replace p201 := eq_true p201
            replace q201 := eq_true q201
            go_wp2_with (first | ((with_reducible refine gate_callee (f := 57) rfl ?_); refine goesL_ (some 14) rfl rfl Try.func57 (by kernel_rfl) rfl #[.agg #[.int .i64 ((rd_T32 l0 x3_1).f0), .int .i64 ((rd_T32 l0 x3_1).f1)]] rfl qq2 ?_; (with_reducible refine (spec_PointValid.calls ((rd_T32 l0 x3_1).f0) ((rd_T32 l0 x3_1).f1) false _ A4.out).mono ?_); rintro e w7 ⟨rfl, hb⟩; refine ⟨_, rfl, ?_⟩; have n0_ := Aside0.mk (below_step qq1 hb); clear HB; have HB := n0_; clear n0_; (try clear hb); (try clear hb2); (try clear hk); (try clear hi)))
            go_ret
            exact ⟨qq11, qq1⟩
        · rw [if_neg c3] at H
          exact absurd H (by simp)
      · rw [if_neg c2] at H
        have c2b0 : decide (x3_1 < (l0.length : Int)) = false := decide_eq_false c2
        clear c2
        replace H := Option.bind_eq_some_iff.mp H
        obtain ⟨t203, A80, H⟩ := H
        replace H : (some t203) = some r := H
        have A8 := Aside0.mk A80
        clear A80
        obtain rfl := Option.some.inj H
        go_wp2_with (first | ((with_reducible refine gate_callee (f := 67) rfl ?_); refine goesL_ (some 18) rfl rfl Try.func67 (by kernel_rfl) rfl #[.int .i64 (l0.length : Int), .int .i64 3, .int .i64 12] rfl qq2 ?_; (with_reducible refine (spec_l6In.calls (l0.length : Int) 3 12 t203 _ A8.out).mono ?_); rintro e w' ⟨rfl, ⟨nd, rfl⟩⟩; refine ⟨_, rfl, ?_⟩))
        go_ret
        exact ⟨qq11, qq1⟩

/-! ### impl_signInt: function 60 -/
def impl_signInt.f (a0 : Int) : Option (Int) := if a0 < 0 then (some (-1)) else (if a0 > 0 then (some 1) else (some 0))
set_option maxHeartbeats 8000000 in
set_option maxRecDepth 100000 in
theorem impl_signInt.calls (a0 : Int) (r : Int) (w : World) (h : impl_signInt.f a0 = some r) :
    Calls Try.prog 60 #[.int .i64 a0] w fun e w' => e = .returned (.int .i64 r) ∧ Drawn0 w w' := by
  have H : (if a0 < 0 then (some (-1)) else (if a0 > 0 then (some 1) else (some 0))) = some r := h
  clear h
  by_cases c2 : a0 < 0
  · rw [if_pos c2] at H
    have c2b0 : decide (a0 < 0) = true := decide_eq_true c2
    clear c2
    obtain rfl := Option.some.inj H
    go_enter Try.func60, Try.ntmps60
    go_wp2
    go_ret
    exact ⟨qq23, qq53⟩
  · rw [if_neg c2] at H
    have c2b0 : decide (a0 < 0) = false := decide_eq_false c2
    clear c2
    by_cases c3 : a0 > 0
    · rw [if_pos c3] at H
      have c3b0 : decide (0 < a0) = true := decide_eq_true c3
      clear c3
      obtain rfl := Option.some.inj H
      go_enter Try.func60, Try.ntmps60
      go_wp2
      go_ret
      exact ⟨qq23, qq53⟩
    · rw [if_neg c3] at H
      have c3b0 : decide (0 < a0) = false := decide_eq_false c3
      clear c3
      obtain rfl := Option.some.inj H
      go_enter Try.func60, Try.ntmps60
      go_wp2
      go_ret
      exact ⟨qq23, qq53⟩

end Go.Proofs.Ytgdhgncdpmalcaa.Q
namespace Go.Proofs.Ytgdhgncdpmalcaa.Q
open Go.RowKit Go.Proofs.YtgdhgncdpmalcaaW.PrintWords Go.Proofs.YtgdhgncdpmalcaaW.PrintLast Go.Proofs.YtgdhgncdpmalcaaW.PrintMore
attribute [local go_sem] max2_int min2_int max_two min_two max_three min_three max_four min_four
set_option linter.unusedVariables false
set_option linter.unusedSimpArgs false

/-! ### impl_pairOf: function 53 -/
def impl_pairOf.f (a0_0 : Int) (a0_1 : Int) : Option (Int × Int) := some (a0_0, a0_1)
set_option maxHeartbeats 8000000 in
set_option maxRecDepth 100000 in
theorem impl_pairOf.calls (a0_0 : Int) (a0_1 : Int) (r1 : Int) (r2 : Int) (w : World) (h : impl_pairOf.f a0_0 a0_1 = some (r1, r2)) :
    Calls Try.prog 53 #[.agg #[.int .i64 a0_0, .int .i64 a0_1]] w fun e w' => e = .returned (.agg #[.int .i64 r1, .int .i64 r2]) ∧ Below w.heap.size w w' := by
  have hu32 := Try.underlying32
  have hu66 := Try.underlying66
  have HB := Aside0.mk (Below.refl w.heap.size w)
  have H : (some (a0_0, a0_1)) = some (r1, r2) := h
  clear h
  simp only [Option.some.injEq, Prod.mk.injEq] at H
  obtain ⟨rfl, rfl⟩ := H
  go_enter Try.func53, Try.ntmps53
  go_wp2_with (first | ((with_reducible refine gate_dst (N := 1) rfl ?_); refine box_event ?hg (N := 1) ?hd (cs := #[.int .i64 a0_0, .int .i64 a0_1]) (t := 32) ?hr ?_; (case hd => rfl); (case hg => rfl); (case hr => exact qq21); intro gb101 hg w2 hbox hb; have n0_ := Aside0.mk (below_step qq1 hb); have n1_ := Aside0.mk (hbox); have n2_ := Aside0.mk ((qq31 : w.heap.size ≤ gb101)); have n3_ := Aside0.mk ((qq31 : w.heap.size ≤ gb101)); clear HB; have HB := n0_; have BK101 := n1_; have GW101 := n2_; have GE101 := n3_; clear n0_ n1_ n2_ n3_; clear hb hbox hg) | ((with_reducible refine gate_dst (N := 2) rfl ?_); refine box_event ?hg (N := 2) ?hd (cs := #[.int .i64 0, .int .i64 0]) (t := 66) ?hr ?_; (case hd => rfl); (case hg => rfl); (case hr => exact qq21); intro gb102 hg w3 hbox hb; have n0_ := Aside0.mk (bbl_ BK101.out hb); have n1_ := Aside0.mk (below_step (qq8 HB.out GE101.out) hb); have n2_ := Aside0.mk (hbox); have n3_ := Aside0.mk ((qq34 HB.out GE101.out : w.heap.size ≤ gb102)); have n4_ := Aside0.mk ((qq34 HB.out GE101.out : w.heap.size ≤ gb102)); have n5_ := Aside0.mk ((qq26 BK101.out : gb101 ≠ gb102)); have n6_ := Aside0.mk ((qq27 BK101.out : gb102 ≠ gb101)); clear BK101; clear HB; have BK101 := n0_; have HB := n1_; have BK102 := n2_; have GW102 := n3_; have GE102 := n4_; have NB101_102 := n5_; have NB102_101 := n6_; clear n0_ n1_ n2_ n3_ n4_ n5_ n6_; clear hb hbox hg; have hnb4 := NB101_102.out; have hnc4 := NB102_101.out; have hcz5_0 : w3.cell? ⟨gb101, 0, none⟩ = some (.int .i64 a0_0) := (blk_cell BK101.out 0).trans rfl; have hcz5_1 : w3.cell? ⟨gb101, 1, none⟩ = some (.int .i64 a0_1) := (blk_cell BK101.out 1).trans rfl; have hfz5_0 := blk_frozen BK101.out 0; have hfz5_1 := blk_frozen BK101.out 1; have hcz6_0 : w3.cell? ⟨gb102, 0, none⟩ = some (.int .i64 0) := (blk_cell BK102.out 0).trans rfl; have hcz6_1 : w3.cell? ⟨gb102, 1, none⟩ = some (.int .i64 0) := (blk_cell BK102.out 1).trans rfl; have hfz6_0 := blk_frozen BK102.out 0; have hfz6_1 := blk_frozen BK102.out 1))
  refine bodyPost_ret (results_cell_row rfl _ _ gb102 66 #[.int .i64 a0_0, .int .i64 a0_1] (0, 0) _ rfl (by (with_reducible repeat (first | refine blk_drewN ?_ _ | refine blk_drew ?_ | refine blk_alloc ?_ _)); refine blk_put (cs := #[.int .i64 a0_0, .int .i64 0]) ?_ 1 _ rfl; (with_reducible repeat (first | refine blk_drewN ?_ _ | refine blk_drew ?_ | refine blk_alloc ?_ _)); refine blk_put (cs := #[.int .i64 0, .int .i64 0]) ?_ 0 _ rfl; (with_reducible repeat (first | refine blk_drewN ?_ _ | refine blk_drew ?_ | refine blk_alloc ?_ _)); exact BK102.out) Try.underlying66 rfl (by kernel_rfl)) rfl ?_
  exact ⟨qq11, qq10 HB.out GE101.out GE102.out⟩

/-! ### impl_within: function 78 -/
def impl_within.f (a0 : Int) (a1 : Int) : Option (Bool) := if (wrap64 (-a1)) ≤ a0 then (some (decide (a0 ≤ a1))) else (some false)
set_option maxHeartbeats 8000000 in
set_option maxRecDepth 100000 in
theorem impl_within.calls (a0 : Int) (a1 : Int) (r : Bool) (w : World) (h : impl_within.f a0 a1 = some r) :
    Calls Try.prog 78 #[.int .i64 a0, .int .i64 a1] w fun e w' => e = .returned (.bool r) ∧ Drawn0 w w' := by
  have H : (if (wrap64 (-a1)) ≤ a0 then (some (decide (a0 ≤ a1))) else (some false)) = some r := h
  clear h
  by_cases c3 : (wrap64 (-a1)) ≤ a0
  · rw [if_pos c3] at H
    have c3b0 : decide ((wrap64 (-a1)) ≤ a0) = true := decide_eq_true c3
    clear c3
    obtain rfl := Option.some.inj H
    go_enter Try.func78, Try.ntmps78
    go_wp2
    go_ret
    exact ⟨qq23, qq53⟩
  · rw [if_neg c3] at H
    have c3b0 : decide ((wrap64 (-a1)) ≤ a0) = false := decide_eq_false c3
    clear c3
    obtain rfl := Option.some.inj H
    go_enter Try.func78, Try.ntmps78
    go_wp2
    go_ret
    exact ⟨qq23, qq53⟩

/-! ### impl_pair_inRange: function 54 -/
def impl_pair_inRange.f (a0_0 : Int) (a0_1 : Int) (a1 : Int) : Option (Bool) := (impl_within.f a0_0 a1).bind fun t104 => (if t104 = true then ((impl_within.f a0_1 a1).bind fun t105 => (some t105)) else (some false))
set_option maxHeartbeats 8000000 in
set_option maxRecDepth 100000 in
theorem impl_pair_inRange.calls (a0_0 : Int) (a0_1 : Int) (a1 : Int) (r : Bool) (w : World) (h : impl_pair_inRange.f a0_0 a0_1 a1 = some r) :
    Calls Try.prog 54 #[.agg #[.int .i64 a0_0, .int .i64 a0_1], .int .i64 a1] w fun e w' => e = .returned (.bool r) ∧ Below w.heap.size w w' := by
  have hu66 := Try.underlying66
  have HB := Aside0.mk (Below.refl w.heap.size w)
  have H : ((impl_within.f a0_0 a1).bind fun t104 => (if t104 = true then ((impl_within.f a0_1 a1).bind fun t105 => (some t105)) else (some false))) = some r := h
  clear h
  replace H := Option.bind_eq_some_iff.mp H
  obtain ⟨t104, A30, H⟩ := H
  replace H : (if t104 = true then ((impl_within.f a0_1 a1).bind fun t105 => (some t105)) else (some false)) = some r := H
  have A3 := Aside0.mk A30
  clear A30
  by_cases c4 : t104 = true
  · subst c4
    have H1 : ((impl_within.f a0_1 a1).bind fun t105 => (some t105)) = some r := by rw [if_pos rfl] at H; exact H
    clear H
    have H := H1
    clear H1
    replace H := Option.bind_eq_some_iff.mp H
    obtain ⟨t105, A50, H⟩ := H
    replace H : (some t105) = some r := H
    have A5 := Aside0.mk A50
    clear A50
    obtain rfl := Option.some.inj H
    go_enter Try.func54, Try.ntmps54
    go_wp2_with (first | ((with_reducible refine gate_dst (N := 2) rfl ?_); refine box_event ?hg (N := 2) ?hd (cs := #[.int .i64 a0_0, .int .i64 a0_1]) (t := 66) ?hr ?_; (case hd => rfl); (case hg => rfl); (case hr => exact qq21); intro gb103 hg w6 hbox hb; have n0_ := Aside0.mk (below_step qq1 hb); have n1_ := Aside0.mk (hbox); have n2_ := Aside0.mk ((qq31 : w.heap.size ≤ gb103)); have n3_ := Aside0.mk ((qq31 : w.heap.size ≤ gb103)); clear HB; have HB := n0_; have BK103 := n1_; have GW103 := n2_; have GE103 := n3_; clear n0_ n1_ n2_ n3_; clear hb hbox hg; have hcz7_0 : w6.cell? ⟨gb103, 0, none⟩ = some (.int .i64 a0_0) := (blk_cell BK103.out 0).trans rfl; have hcz7_1 : w6.cell? ⟨gb103, 1, none⟩ = some (.int .i64 a0_1) := (blk_cell BK103.out 1).trans rfl; have hfz7_0 := blk_frozen BK103.out 0; have hfz7_1 := blk_frozen BK103.out 1) | ((with_reducible refine gate_callee (f := 78) rfl ?_); refine goesL_ (some 8) rfl rfl Try.func78 (by kernel_rfl) rfl #[.int .i64 a0_0, .int .i64 a1] rfl qq2 ?_; (with_reducible refine (impl_within.calls a0_0 a1 true _ A3.out).mono ?_); rintro e w' ⟨rfl, ⟨nd, rfl⟩⟩; refine ⟨_, rfl, ?_⟩) | (go_at_call 78; (with_reducible refine (impl_within.calls a0_1 a1 t105 _ A5.out).mono ?_); rintro e w' ⟨rfl, ⟨nd, rfl⟩⟩))
    go_ret
    exact ⟨qq11, qq8 HB.out GE103.out⟩
  · replace c4 := Bool.eq_false_iff.mpr c4
    subst c4
    have H1 : (some false) = some r := by rw [if_neg (show ¬ (false = true) by decide)] at H; exact H
    clear H
    have H := H1
    clear H1
    obtain rfl := Option.some.inj H
    go_enter Try.func54, Try.ntmps54
    go_wp2_with (first | ((with_reducible refine gate_dst (N := 2) rfl ?_); refine box_event ?hg (N := 2) ?hd (cs := #[.int .i64 a0_0, .int .i64 a0_1]) (t := 66) ?hr ?_; (case hd => rfl); (case hg => rfl); (case hr => exact qq21); intro gb103 hg w8 hbox hb; have n0_ := Aside0.mk (below_step qq1 hb); have n1_ := Aside0.mk (hbox); have n2_ := Aside0.mk ((qq31 : w.heap.size ≤ gb103)); have n3_ := Aside0.mk ((qq31 : w.heap.size ≤ gb103)); clear HB; have HB := n0_; have BK103 := n1_; have GW103 := n2_; have GE103 := n3_; clear n0_ n1_ n2_ n3_; clear hb hbox hg; have hcz9_0 : w8.cell? ⟨gb103, 0, none⟩ = some (.int .i64 a0_0) := (blk_cell BK103.out 0).trans rfl; have hcz9_1 : w8.cell? ⟨gb103, 1, none⟩ = some (.int .i64 a0_1) := (blk_cell BK103.out 1).trans rfl; have hfz9_0 := blk_frozen BK103.out 0; have hfz9_1 := blk_frozen BK103.out 1) | ((with_reducible refine gate_callee (f := 78) rfl ?_); refine goesL_ (some 8) rfl rfl Try.func78 (by kernel_rfl) rfl #[.int .i64 a0_0, .int .i64 a1] rfl qq2 ?_; (with_reducible refine (impl_within.calls a0_0 a1 false _ A3.out).mono ?_); rintro e w' ⟨rfl, ⟨nd, rfl⟩⟩; refine ⟨_, rfl, ?_⟩))
    go_ret
    exact ⟨qq11, qq8 HB.out GE103.out⟩

/-! ### impl_PointValid: function 23 -/
def impl_PointValid.f (a0_0 : Int) (a0_1 : Int) : Option (Bool) := (impl_pairOf.f a0_0 a0_1).bind fun bt107 => ((impl_pair_inRange.f bt107.1 bt107.2 10000).bind fun t109 => (some t109))
set_option maxHeartbeats 8000000 in
set_option maxRecDepth 100000 in
theorem impl_PointValid.calls (a0_0 : Int) (a0_1 : Int) (r : Bool) (w : World) (h : impl_PointValid.f a0_0 a0_1 = some r) :
    Calls Try.prog 23 #[.agg #[.int .i64 a0_0, .int .i64 a0_1]] w fun e w' => e = .returned (.bool r) ∧ Below w.heap.size w w' := by
  have hu32 := Try.underlying32
  have HB := Aside0.mk (Below.refl w.heap.size w)
  have H : ((impl_pairOf.f a0_0 a0_1).bind fun bt107 => ((impl_pair_inRange.f bt107.1 bt107.2 10000).bind fun t109 => (some t109))) = some r := h
  clear h
  replace H := Option.bind_eq_some_iff.mp H
  obtain ⟨⟨t107, t108⟩, A20, H⟩ := H
  replace H : ((impl_pair_inRange.f t107 t108 10000).bind fun t109 => (some t109)) = some r := H
  have A2 := Aside0.mk A20
  clear A20
  replace H := Option.bind_eq_some_iff.mp H
  obtain ⟨t109, A30, H⟩ := H
  replace H : (some t109) = some r := H
  have A3 := Aside0.mk A30
  clear A30
  obtain rfl := Option.some.inj H
  go_enter Try.func23, Try.ntmps23
  go_wp2_with (first | ((with_reducible refine gate_dst (N := 1) rfl ?_); refine box_event ?hg (N := 1) ?hd (cs := #[.int .i64 a0_0, .int .i64 a0_1]) (t := 32) ?hr ?_; (case hd => rfl); (case hg => rfl); (case hr => exact qq21); intro gb106 hg w4 hbox hb; have n0_ := Aside0.mk (below_step qq1 hb); have n1_ := Aside0.mk (hbox); have n2_ := Aside0.mk ((qq31 : w.heap.size ≤ gb106)); have n3_ := Aside0.mk ((qq31 : w.heap.size ≤ gb106)); clear HB; have HB := n0_; have BK106 := n1_; have GW106 := n2_; have GE106 := n3_; clear n0_ n1_ n2_ n3_; clear hb hbox hg; have hcz5_0 : w4.cell? ⟨gb106, 0, none⟩ = some (.int .i64 a0_0) := (blk_cell BK106.out 0).trans rfl; have hcz5_1 : w4.cell? ⟨gb106, 1, none⟩ = some (.int .i64 a0_1) := (blk_cell BK106.out 1).trans rfl; have hfz5_0 := blk_frozen BK106.out 0; have hfz5_1 := blk_frozen BK106.out 1) | ((with_reducible refine gate_callee (f := 53) rfl ?_); refine goesL_ (some 4) rfl rfl Try.func53 (by kernel_rfl) rfl #[.agg #[.int .i64 a0_0, .int .i64 a0_1]] rfl qq2 ?_; (with_reducible refine (impl_pairOf.calls a0_0 a0_1 t107 t108 _ A2.out).mono ?_); rintro e w6 ⟨rfl, hb⟩; refine ⟨_, rfl, ?_⟩; have n0_ := Aside0.mk (bbl_ BK106.out hb); have n1_ := Aside0.mk (below_step (qq8 HB.out GE106.out) hb); clear BK106; clear HB; have BK106 := n0_; have HB := n1_; clear n0_ n1_; (try clear hb); (try clear hb2); (try clear hk); (try clear hi)) | ((with_reducible refine gate_callee (f := 54) rfl ?_); refine goesL_ (some 5) rfl rfl Try.func54 (by kernel_rfl) rfl #[.agg #[.int .i64 t107, .int .i64 t108], .int .i64 10000] rfl qq2 ?_; (with_reducible refine (impl_pair_inRange.calls t107 t108 10000 t109 _ A3.out).mono ?_); rintro e w7 ⟨rfl, hb⟩; refine ⟨_, rfl, ?_⟩; have n0_ := Aside0.mk (bbl_ BK106.out hb); have n1_ := Aside0.mk (below_step (qq8 HB.out GE106.out) hb); clear BK106; clear HB; have BK106 := n0_; have HB := n1_; clear n0_ n1_; (try clear hb); (try clear hb2); (try clear hk); (try clear hi)))
  go_ret
  exact ⟨qq11, qq8 HB.out GE106.out⟩

/-! ### impl_pair_cross: function 74 -/
def impl_pair_cross.f (a0_0 : Int) (a0_1 : Int) (a1_0 : Int) (a1_1 : Int) : Option (Int) := some (wrap64 ((wrap64 (a0_0 * a1_1)) - (wrap64 (a1_0 * a0_1))))
set_option maxHeartbeats 8000000 in
set_option maxRecDepth 100000 in
theorem impl_pair_cross.calls (a0_0 : Int) (a0_1 : Int) (a1_0 : Int) (a1_1 : Int) (r : Int) (w : World) (h : impl_pair_cross.f a0_0 a0_1 a1_0 a1_1 = some r) :
    Calls Try.prog 74 #[.agg #[.int .i64 a0_0, .int .i64 a0_1], .agg #[.int .i64 a1_0, .int .i64 a1_1]] w fun e w' => e = .returned (.int .i64 r) ∧ Below w.heap.size w w' := by
  have hu66 := Try.underlying66
  have HB := Aside0.mk (Below.refl w.heap.size w)
  have H : (some (wrap64 ((wrap64 (a0_0 * a1_1)) - (wrap64 (a1_0 * a0_1))))) = some r := h
  clear h
  obtain rfl := Option.some.inj H
  go_enter Try.func74, Try.ntmps74
  go_wp2_with (first | ((with_reducible refine gate_dst (N := 2) rfl ?_); refine box_event ?hg (N := 2) ?hd (cs := #[.int .i64 a0_0, .int .i64 a0_1]) (t := 66) ?hr ?_; (case hd => rfl); (case hg => rfl); (case hr => exact qq21); intro gb113 hg w3 hbox hb; have n0_ := Aside0.mk (below_step qq1 hb); have n1_ := Aside0.mk (hbox); have n2_ := Aside0.mk ((qq31 : w.heap.size ≤ gb113)); have n3_ := Aside0.mk ((qq31 : w.heap.size ≤ gb113)); clear HB; have HB := n0_; have BK113 := n1_; have GW113 := n2_; have GE113 := n3_; clear n0_ n1_ n2_ n3_; clear hb hbox hg) | ((with_reducible refine gate_dst (N := 3) rfl ?_); refine box_event ?hg (N := 3) ?hd (cs := #[.int .i64 a1_0, .int .i64 a1_1]) (t := 66) ?hr ?_; (case hd => rfl); (case hg => rfl); (case hr => exact qq21); intro gb114 hg w4 hbox hb; have n0_ := Aside0.mk (bbl_ BK113.out hb); have n1_ := Aside0.mk (below_step (qq8 HB.out GE113.out) hb); have n2_ := Aside0.mk (hbox); have n3_ := Aside0.mk ((qq34 HB.out GE113.out : w.heap.size ≤ gb114)); have n4_ := Aside0.mk ((qq34 HB.out GE113.out : w.heap.size ≤ gb114)); have n5_ := Aside0.mk ((qq26 BK113.out : gb113 ≠ gb114)); have n6_ := Aside0.mk ((qq27 BK113.out : gb114 ≠ gb113)); clear BK113; clear HB; have BK113 := n0_; have HB := n1_; have BK114 := n2_; have GW114 := n3_; have GE114 := n4_; have NB113_114 := n5_; have NB114_113 := n6_; clear n0_ n1_ n2_ n3_ n4_ n5_ n6_; clear hb hbox hg; have hnb5 := NB113_114.out; have hnc5 := NB114_113.out; have hcz6_0 : w4.cell? ⟨gb113, 0, none⟩ = some (.int .i64 a0_0) := (blk_cell BK113.out 0).trans rfl; have hcz6_1 : w4.cell? ⟨gb113, 1, none⟩ = some (.int .i64 a0_1) := (blk_cell BK113.out 1).trans rfl; have hfz6_0 := blk_frozen BK113.out 0; have hfz6_1 := blk_frozen BK113.out 1; have hcz7_0 : w4.cell? ⟨gb114, 0, none⟩ = some (.int .i64 a1_0) := (blk_cell BK114.out 0).trans rfl; have hcz7_1 : w4.cell? ⟨gb114, 1, none⟩ = some (.int .i64 a1_1) := (blk_cell BK114.out 1).trans rfl; have hfz7_0 := blk_frozen BK114.out 0; have hfz7_1 := blk_frozen BK114.out 1))
  go_ret
  exact ⟨qq11, qq10 HB.out GE113.out GE114.out⟩

end Go.Proofs.Ytgdhgncdpmalcaa.Q
namespace Go.Proofs.Ytgdhgncdpmalcaa.Q
open Go.RowKit Go.Proofs.YtgdhgncdpmalcaaW.PrintWords Go.Proofs.YtgdhgncdpmalcaaW.PrintLast Go.Proofs.YtgdhgncdpmalcaaW.PrintMore
attribute [local go_sem] max2_int min2_int max_two min_two max_three min_three max_four min_four
set_option linter.unusedVariables false
set_option linter.unusedSimpArgs false

/-! ### impl_cornersValid: function 47 -/
mutual
def impl_cornersValid.j0 : Nat → List (S32) → Bool → Option (Bool)
  | 0, _, _ => none
  | k + 1, x0, x12 => if x12 = true then (some false) else (impl_cornersValid.l0 k x0 (x0.length : Int) 0)
def impl_cornersValid.l0 : Nat → List (S32) → Int → Int → Option (Bool)
  | 0, _, _, _ => none
  | k + 1, x13, x14, x15 => if x15 < x14 then (if 0 ≤ x15 then (if x15 < (x13.length : Int) then ((impl_PointValid.f ((rd_T32 x13 x15).f0) ((rd_T32 x13 x15).f1)).bind fun t112 => (if t112 = true then (impl_cornersValid.l0 k x13 x14 (wrap64 (x15 + 1))) else (some false))) else (none)) else (none)) else (some true)
end
def impl_cornersValid.f (k : Nat) (l0 : List (S32)) : Option (Bool) := if (l0.length : Int) < 3 then (impl_cornersValid.j0 k l0 true) else (impl_cornersValid.j0 k l0 (decide ((l0.length : Int) > 12)))
set_option maxHeartbeats 8000000 in
set_option maxRecDepth 100000 in
theorem impl_cornersValid.calls (k : Nat) (A0 : Option Addr) (c0 : Nat) (l0 : List (S32)) (r : Bool) (w : World) (hr0 : Kd.C k32 w A0 l0.length l0) (hc0 : l0.length ≤ c0) (h : impl_cornersValid.f k l0 = some r) :
    Calls Try.prog 47 #[.slice A0 l0.length c0] w fun e w' => e = .returned (.bool r) ∧ Below w.heap.size w w' := by
  have hu32 := Try.underlying32
  have HR0 := Aside0.mk hr0
  have HC0 := Aside0.mk hc0
  clear hr0 hc0
  have HB := Aside0.mk (Below.refl w.heap.size w)
  have H : (if (l0.length : Int) < 3 then (impl_cornersValid.j0 k l0 true) else (impl_cornersValid.j0 k l0 (decide ((l0.length : Int) > 12)))) = some r := h
  clear h
  have HC2 := Aside0.mk H
  clear H
  go_enter Try.func47, Try.ntmps47
  go_upto_region 1 with (fail)
  go_cut [12] (fun v12 wc => ∃ (kq : Nat) (x12_1 : Bool), v12 = .bool x12_1 ∧ Aside0 (impl_cornersValid.j0 kq l0 x12_1 = some r) ∧ Aside0 (kq ≤ k) ∧ Aside0 (Below w.heap.size w wc))
  case first =>
    have H := HC2.out
    clear HC2
    by_cases c3 : (l0.length : Int) < 3
    · rw [if_pos c3] at H
      have c3b0 : decide ((l0.length : Int) < 3) = true := decide_eq_true c3
      have c3b1 : decide (l0.length < 3) = true := decide_eq_true (by omega)
      clear c3
      (first | rw [c3b0] | (simp only [i64_w, i32_w]; rw [c3b0]) | skip)
      have H' := Aside0.mk H
      clear H
      go_wp2
      go_meet
      case rel => exact ⟨_, (true), qq23, H', ⟨qq46⟩, ⟨qq1⟩⟩
    · rw [if_neg c3] at H
      have c3b0 : decide ((l0.length : Int) < 3) = false := decide_eq_false c3
      have c3b1 : decide (l0.length < 3) = false := decide_eq_false (by omega)
      clear c3
      (first | rw [c3b0] | (simp only [i64_w, i32_w]; rw [c3b0]) | skip)
      have H' := Aside0.mk H
      clear H
      go_wp2
      go_meet
      case rel => exact ⟨_, (decide ((l0.length : Int) > 12)), qq23, H', ⟨qq46⟩, ⟨qq1⟩⟩
  case rest =>
    clear HC2
    try clear p2
    try clear c3
    try clear c3b0
    try clear c3b1
    obtain ⟨kq, x12_1, rfl, HA, HJ1, HB⟩ := hcut
    cases kq with
    | zero => exact absurd HA.out (by simp [impl_cornersValid.j0])
    | succ kj1 =>
      have H := HA.out
      clear HA
      simp only [impl_cornersValid.j0] at H
      by_cases c4 : x12_1 = true
      · subst c4
        have H1 : (some false) = some r := by rw [if_pos rfl] at H; exact H
        clear H
        have H := H1
        clear H1
        obtain rfl := Option.some.inj H
        go_wp2
        go_ret
        exact ⟨qq11, qq1⟩
      · replace c4 := Bool.eq_false_iff.mpr c4
        subst c4
        have H1 : (impl_cornersValid.l0 kj1 l0 (l0.length : Int) 0) = some r := by rw [if_neg (show ¬ (false = true) by decide)] at H; exact H
        clear H
        have H := H1
        clear H1
        have H' := Aside0.mk H
        clear H
        go_wp2
        go_loopg [15] kj1 (fun kq v15 w' => ∃ (x15_2 : Int), v15 = .int .i64 x15_2 ∧ Aside0 (impl_cornersValid.l0 kq l0 (l0.length : Int) x15_2 = some r) ∧ Aside0 (kq ≤ kj1) ∧ Aside0 (Below w.heap.size w w'))
        case atStart => exact ⟨(0), qq23, H', ⟨Nat.le_refl _⟩, ⟨qq1⟩⟩
        case round =>
          clear H'
          try clear p2
          try clear c3
          try clear c3b0
          try clear c3b1
          try clear c4
          try clear p2
          obtain ⟨x15_2, rfl, HA, HK2, HB⟩ := hrel
          cases gk with
          | zero => exact absurd HA.out (by simp [impl_cornersValid.l0])
          | succ k2 =>
            have H := HA.out
            clear HA
            simp only [impl_cornersValid.l0] at H
            by_cases c5 : x15_2 < (l0.length : Int)
            · rw [if_pos c5] at H
              have c5b0 : decide (x15_2 < (l0.length : Int)) = true := decide_eq_true c5
              clear c5
              by_cases c6 : 0 ≤ x15_2
              · rw [if_pos c6] at H
                have c6b0 : decide (0 ≤ x15_2) = true := decide_eq_true c6
                clear c6
                by_cases c7 : x15_2 < (l0.length : Int)
                · rw [if_pos c7] at H
                  have c7b0 : decide (x15_2 < (l0.length : Int)) = true := decide_eq_true c7
                  clear c7
                  replace H := Option.bind_eq_some_iff.mp H
                  obtain ⟨t112, A80, H⟩ := H
                  replace H : (if t112 = true then (impl_cornersValid.l0 k2 l0 (l0.length : Int) (wrap64 (x15_2 + 1))) else (some false)) = some r := H
                  have A8 := Aside0.mk A80
                  clear A80
                  by_cases c9 : t112 = true
                  · subst c9
                    have H1 : (impl_cornersValid.l0 k2 l0 (l0.length : Int) (wrap64 (x15_2 + 1))) = some r := by rw [if_pos rfl] at H; exact H
                    clear H
                    have H := H1
                    clear H1
                    have H' := Aside0.mk H
                    clear H
                    have p110 : 0 ≤ (x15_2 : Int) := of_decide_eq_true qq18
                    have q110 : x15_2 < (l0.length : Int) := of_decide_eq_true qq18
                    obtain ⟨ad110, e110, hx110_0, hx110_1⟩ := at_T32 HR0.out x15_2 p110 q110
                    cases e110
                    replace hx110_0 := (HB.out.cell (World.block_lt_of_cell? w _ hx110_0)).trans hx110_0
                    replace hx110_1 := (HB.out.cell (World.block_lt_of_cell? w _ hx110_1)).trans hx110_1
                    replace p110 := eq_true p110
                    replace q110 := eq_true q110
                    go_wp2_with (first | ((with_reducible refine gate_dst (N := 4) rfl ?_); (try (refine gate_guard (by rfl) ?_; dsimp only)); refine box_event ?hg (N := 4) ?hd (cs := #[.int .i64 0, .int .i64 0]) (t := 32) ?hr ?_; (case hd => rfl); (case hg => rfl); (case hr => exact qq21); intro gb111 hg w10 hbox hb; have n0_ := Aside0.mk (below_step qq1 hb); have n1_ := Aside0.mk (hbox); have n2_ := Aside0.mk ((qq31 : w.heap.size ≤ gb111)); have n3_ := Aside0.mk ((qq31 : w.heap.size ≤ gb111)); clear HB; have HB := n0_; have BK111 := n1_; have GW111 := n2_; have GE111 := n3_; clear n0_ n1_ n2_ n3_; clear hb hbox hg; have hcz11_0 : w10.cell? ⟨gb111, 0, none⟩ = some (.int .i64 0) := (blk_cell BK111.out 0).trans rfl; have hcz11_1 : w10.cell? ⟨gb111, 1, none⟩ = some (.int .i64 0) := (blk_cell BK111.out 1).trans rfl; have hfz11_0 := blk_frozen BK111.out 0; have hfz11_1 := blk_frozen BK111.out 1) | ((with_reducible refine gate_callee (f := 23) rfl ?_); refine goesL_ (some 20) rfl rfl Try.func23 (by kernel_rfl) rfl #[.agg #[.int .i64 ((rd_T32 l0 x15_2).f0), .int .i64 ((rd_T32 l0 x15_2).f1)]] rfl qq2 ?_; (with_reducible refine (impl_PointValid.calls ((rd_T32 l0 x15_2).f0) ((rd_T32 l0 x15_2).f1) true _ A8.out).mono ?_); rintro e w12 ⟨rfl, hb⟩; refine ⟨_, rfl, ?_⟩; have n0_ := Aside0.mk (blk_below (g := gb111) (o := .cells #[.int .i64 ((rd_T32 l0 x15_2).f0), .int .i64 ((rd_T32 l0 x15_2).f1)] 32 (0, 0)) qq42 hb); have n1_ := Aside0.mk (below_step (qq8 HB.out GE111.out) hb); clear BK111; clear HB; have BK111 := n0_; have HB := n1_; clear n0_ n1_; (try clear hb); (try clear hb2); (try clear hk); (try clear hi)))
                    go_roundg k2
                    case measure => have := HJ1.out; have := HK2.out; omega
                    case rel => exact ⟨(wrap64 (x15_2 + 1)), qq23, H', ⟨by have := HJ1.out; have := HK2.out; omega⟩, ⟨qq8 HB.out GE111.out⟩⟩
                  · replace c9 := Bool.eq_false_iff.mpr c9
                    subst c9
                    have H1 : (some false) = some r := by rw [if_neg (show ¬ (false = true) by decide)] at H; exact H
                    clear H
                    have H := H1
                    clear H1
                    obtain rfl := Option.some.inj H
                    have p110 : 0 ≤ (x15_2 : Int) := of_decide_eq_true qq18
                    have q110 : x15_2 < (l0.length : Int) := of_decide_eq_true qq18
                    obtain ⟨ad110, e110, hx110_0, hx110_1⟩ := at_T32 HR0.out x15_2 p110 q110
                    cases e110
                    replace hx110_0 := (HB.out.cell (World.block_lt_of_cell? w _ hx110_0)).trans hx110_0
                    replace hx110_1 := (HB.out.cell (World.block_lt_of_cell? w _ hx110_1)).trans hx110_1
                    replace p110 := eq_true p110
                    replace q110 := eq_true q110
                    go_wp2_with (first | ((with_reducible refine gate_dst (N := 4) rfl ?_); (try (refine gate_guard (by rfl) ?_; dsimp only)); refine box_event ?hg (N := 4) ?hd (cs := #[.int .i64 0, .int .i64 0]) (t := 32) ?hr ?_; (case hd => rfl); (case hg => rfl); (case hr => exact qq21); intro gb111 hg w13 hbox hb; have n0_ := Aside0.mk (below_step qq1 hb); have n1_ := Aside0.mk (hbox); have n2_ := Aside0.mk ((qq31 : w.heap.size ≤ gb111)); have n3_ := Aside0.mk ((qq31 : w.heap.size ≤ gb111)); clear HB; have HB := n0_; have BK111 := n1_; have GW111 := n2_; have GE111 := n3_; clear n0_ n1_ n2_ n3_; clear hb hbox hg; have hcz14_0 : w13.cell? ⟨gb111, 0, none⟩ = some (.int .i64 0) := (blk_cell BK111.out 0).trans rfl; have hcz14_1 : w13.cell? ⟨gb111, 1, none⟩ = some (.int .i64 0) := (blk_cell BK111.out 1).trans rfl; have hfz14_0 := blk_frozen BK111.out 0; have hfz14_1 := blk_frozen BK111.out 1) | ((with_reducible refine gate_callee (f := 23) rfl ?_); refine goesL_ (some 20) rfl rfl Try.func23 (by kernel_rfl) rfl #[.agg #[.int .i64 ((rd_T32 l0 x15_2).f0), .int .i64 ((rd_T32 l0 x15_2).f1)]] rfl qq2 ?_; (with_reducible refine (impl_PointValid.calls ((rd_T32 l0 x15_2).f0) ((rd_T32 l0 x15_2).f1) false _ A8.out).mono ?_); rintro e w15 ⟨rfl, hb⟩; refine ⟨_, rfl, ?_⟩; have n0_ := Aside0.mk (blk_below (g := gb111) (o := .cells #[.int .i64 ((rd_T32 l0 x15_2).f0), .int .i64 ((rd_T32 l0 x15_2).f1)] 32 (0, 0)) qq42 hb); have n1_ := Aside0.mk (below_step (qq8 HB.out GE111.out) hb); clear BK111; clear HB; have BK111 := n0_; have HB := n1_; clear n0_ n1_; (try clear hb); (try clear hb2); (try clear hk); (try clear hi)))
                    go_ret
                    exact ⟨qq11, qq8 HB.out GE111.out⟩
                · rw [if_neg c7] at H
                  exact absurd H (by simp)
              · rw [if_neg c6] at H
                exact absurd H (by simp)
            · rw [if_neg c5] at H
              have c5b0 : decide (x15_2 < (l0.length : Int)) = false := decide_eq_false c5
              clear c5
              obtain rfl := Option.some.inj H
              go_wp2
              go_ret
              exact ⟨qq11, qq1⟩

end Go.Proofs.Ytgdhgncdpmalcaa.Q
namespace Go.Proofs.Ytgdhgncdpmalcaa.Ring
open Go.RowKit Go.Proofs.Ytgdhgncdpmalcaa.Q Go.Proofs.YtgdhgncdpmalcaaW.PrintWords Go.Proofs.YtgdhgncdpmalcaaW.PrintLast Go.Proofs.YtgdhgncdpmalcaaW.PrintMore
set_option linter.unusedVariables false
set_option linter.unusedSimpArgs false

abbrev Pt := S32
def at_ (l : List Pt) (j : Nat) : Pt := l.getD j z32
def nxt (l : List Pt) (j : Nat) : Pt := at_ l ((j + 1) % l.length)

/-- A block of cells that nobody has marked. -/
def Plain (w : World) (b : Nat) : Prop := ∃ cs t, w.heap[b]? = some (.cells cs t (0, 0))
theorem Plain.setCell {w : World} {b : Nat} (h : Plain w b) (p : Addr) (v : Value) : Plain (w.setCell p v) b := by
  obtain ⟨cs, t, h⟩ := h
  by_cases e : b = p.block
  · subst e
    have hlt := (Array.getElem?_eq_some_iff.1 h).1
    refine ⟨if p.spot.isSome then cs else cs.setIfInBounds p.off v, t, ?_⟩
    simp [World.setCell, Array.getElem?_modify, h]
  · exact ⟨cs, t, (Below.heap_setCell w p v b e).trans h⟩
theorem Plain.alloc {w : World} {b : Nat} (h : Plain w b) (o : Obj) : Plain (w.alloc o) b := by
  obtain ⟨cs, t, h⟩ := h
  exact ⟨cs, t, (Below.heap_alloc w o b (Array.getElem?_eq_some_iff.1 h).1).trans h⟩
theorem Plain.new (w : World) (cs : Array Value) (t : TypeId) : Plain (w.alloc (.cells cs t)) w.heap.size := ⟨cs, t, by show (w.heap.push _)[w.heap.size]? = _; simp⟩
theorem Plain.below {w w1 : World} {top b : Nat} (h : Plain w b) (hb : Below top w w1) (hl : b < top) : Plain w1 b := by
  obtain ⟨cs, t, h⟩ := h
  exact ⟨cs, t, (hb.block b hl).trans h⟩

/-- Corner j of the list l lies in block bs j and points to the next one. -/
structure Ring (w : World) (top : Nat) (bs : Nat → Nat) (l : List Pt) : Prop where
  pos : 3 ≤ l.length
  most : l.length ≤ 12
  lt : ∀ j, j < l.length → bs j < top
  inj : ∀ i j, i < l.length → j < l.length → bs i = bs j → i = j
  x : ∀ j, j < l.length → w.cell? ⟨bs j, 0, none⟩ = some (.int .i64 (at_ l j).f0)
  y : ∀ j, j < l.length → w.cell? ⟨bs j, 1, none⟩ = some (.int .i64 (at_ l j).f1)
  next : ∀ j, j < l.length → w.cell? ⟨bs j, 2, none⟩ = some (.pointer (some ⟨bs ((j + 1) % l.length), 0, none⟩))
  blk : ∀ j, j < l.length → Plain w (bs j)

theorem Ring.below {w w1 : World} {top : Nat} {bs : Nat → Nat} {l : List Pt} (h : Ring w top bs l) (hb : Below top w w1) : Ring w1 top bs l :=
  ⟨h.pos, h.most, h.lt, h.inj, fun j hj => (hb.cell (p := ⟨bs j, 0, none⟩) (h.lt j hj)).trans (h.x j hj), fun j hj => (hb.cell (p := ⟨bs j, 1, none⟩) (h.lt j hj)).trans (h.y j hj),
    fun j hj => (hb.cell (p := ⟨bs j, 2, none⟩) (h.lt j hj)).trans (h.next j hj), fun j hj => (h.blk j hj).below hb (h.lt j hj)⟩
theorem Ring.mono {w : World} {top top' : Nat} {bs : Nat → Nat} {l : List Pt} (h : Ring w top bs l) (ht : top ≤ top') : Ring w top' bs l :=
  { h with lt := fun j hj => Nat.lt_of_lt_of_le (h.lt j hj) ht }

/-- The chain so far: k + 1 corners, the last one of which points nowhere. -/
structure Chain (w : World) (lo : Nat) (bs : Nat → Nat) (l : List Pt) (k : Nat) : Prop where
  lt : ∀ j, j ≤ k → lo ≤ bs j ∧ bs j < w.heap.size
  inj : ∀ i j, i ≤ k → j ≤ k → bs i = bs j → i = j
  x : ∀ j, j ≤ k → w.cell? ⟨bs j, 0, none⟩ = some (.int .i64 (at_ l j).f0)
  y : ∀ j, j ≤ k → w.cell? ⟨bs j, 1, none⟩ = some (.int .i64 (at_ l j).f1)
  next : ∀ j, j < k → w.cell? ⟨bs j, 2, none⟩ = some (.pointer (some ⟨bs (j + 1), 0, none⟩))
  last : w.cell? ⟨bs k, 2, none⟩ = some (.pointer none)
  free : ∀ j, j ≤ k → w.frozen? ⟨bs j, 2, none⟩ = false
  blk : ∀ j, j ≤ k → Plain w (bs j)

theorem bcell {W w1 : World} (hb : Below W.heap.size W w1) : (∀ b o, b < W.heap.size → w1.cell? ⟨b, o, none⟩ = W.cell? ⟨b, o, none⟩) ∧ (∀ b o, b < W.heap.size → w1.frozen? ⟨b, o, none⟩ = W.frozen? ⟨b, o, none⟩) :=
  ⟨fun b o h => hb.cell (p := ⟨b, o, none⟩) h, fun b o h => hb.frozen (p := ⟨b, o, none⟩) h⟩
def Linked (w : World) (l : List Pt) (e : Ending) (w' : World) : Prop := ∃ bs, e = .returned (.tuple #[.agg #[.pointer (some ⟨bs 0, 0, none⟩), .int .i64 l.length], .bool true]) ∧ Ring w' w'.heap.size bs l ∧ (∀ j, j < l.length → w.heap.size ≤ bs j) ∧ Below w.heap.size w w'
theorem add_pos (a : Addr) {n : Nat} (h : 0 < n) : a.add n = ⟨a.block, a.off + n, none⟩ := by unfold Addr.add; rw [if_neg (by omega)]
theorem size_setCell_ (w : World) (a : Addr) (v : Value) : (w.setCell a v).heap.size = w.heap.size := by simp
theorem at_rd (l : List Pt) (j : Nat) : rd_T32 l (j : Int) = at_ l j := by unfold rd_T32 at_; rw [Int.toNat_natCast]
theorem Chain.first {w : World} {x y : Int} {l : List Pt} (hx : (at_ l 0).f0 = x) (hy : (at_ l 0).f1 = y) :
    Chain (w.alloc (.cells #[.int .i64 x, .int .i64 y, .pointer none] 75)) w.heap.size (fun _ => w.heap.size) l 0 := by
  refine ⟨fun j hj => ⟨Nat.le_refl _, by simp⟩, fun i j hi hj _ => by omega, fun j hj => ?_, fun j hj => ?_, fun j hj => by omega, ?_, fun j hj => ?_, fun j hj => Plain.new _ _ _⟩
  · obtain rfl : j = 0 := by omega
    rw [hx]; simp [go_sem]
  · obtain rfl : j = 0 := by omega
    rw [hy]; simp [go_sem]
  · simp [go_sem]
  · simp [go_sem]
theorem Chain.step {w w2 : World} {x y : Int} {lo j : Nat} {l : List Pt} {bs : Nat → Nat} {o : Obj} (h : Chain w lo bs l j) (hx : (at_ l (j + 1)).f0 = x) (hy : (at_ l (j + 1)).f1 = y) (hlo : lo ≤ w.heap.size)
    (e : w2 = (((w.setCell ⟨bs j, 2, none⟩ (.pointer (some ⟨w.heap.size + 1, 0, none⟩))).alloc o).alloc (.cells #[.int .i64 x, .int .i64 y, .pointer none] 75))) :
    Chain w2 lo (fun i => if i = j + 1 then w.heap.size + 1 else bs i) l (j + 1) := by
  have old : ∀ i, i ≤ j → bs i < w.heap.size := fun i hi => (h.lt i hi).2
  have hs : w2.heap.size = w.heap.size + 2 := by subst e; simp
  have keep : ∀ b o', b < w.heap.size → (b = bs j → o' ≠ 2) → w2.cell? ⟨b, o', none⟩ = w.cell? ⟨b, o', none⟩ := by
    intro b o' hb hne
    subst e
    rw [World.cell?_alloc_lt _ _ _ (by simp; omega), World.cell?_alloc_lt _ _ _ (by simpa using hb)]
    exact World.cell?_setCell_other _ _ _ _ (by intro e; injection e with e1 e2; exact hne e1.symm e2.symm)
  have keepF : ∀ b o', b < w.heap.size → w2.frozen? ⟨b, o', none⟩ = w.frozen? ⟨b, o', none⟩ := by
    intro b o' hb
    subst e
    have a1 := (((Below.refl w.heap.size (w.setCell ⟨bs j, 2, none⟩ (.pointer (some ⟨w.heap.size + 1, 0, none⟩)))).alloc (by simp) o).alloc (by simp) (.cells #[.int .i64 x, .int .i64 y, .pointer none] 75)).frozen (p := ⟨b, o', none⟩) hb
    rw [a1, World.frozen?_setCell]
  have new : ∀ o', w2.cell? ⟨w.heap.size + 1, o', none⟩ = (#[.int .i64 x, .int .i64 y, .pointer none] : Array Value)[o']? := by
    intro o'; subst e
    exact World.cell?_alloc_at _ _ _ _ (by simp)
  have newF : ∀ o', w2.frozen? ⟨w.heap.size + 1, o', none⟩ = false := by
    intro o'; subst e
    simp [go_sem]
  have own : w2.cell? ⟨bs j, 2, none⟩ = some (.pointer (some ⟨w.heap.size + 1, 0, none⟩)) := by
    subst e
    rw [World.cell?_alloc_lt _ _ _ (by have := old j (Nat.le_refl _); simp; omega), World.cell?_alloc_lt _ _ _ (by simpa using old j (Nat.le_refl _))]
    exact World.cell?_setCell_same _ _ _ h.last
  refine ⟨fun i hi => ?_, fun i i' hi hi' q => ?_, fun i hi => ?_, fun i hi => ?_, fun i hi => ?_, ?_, fun i hi => ?_, fun i hi => ?_⟩
  · rw [hs]
    by_cases c : i = j + 1
    · rw [if_pos c]; omega
    · rw [if_neg c]; have := h.lt i (by omega); omega
  · by_cases c : i = j + 1 <;> by_cases c' : i' = j + 1
    · omega
    · rw [if_pos c, if_neg c'] at q; have := old i' (by omega); omega
    · rw [if_neg c, if_pos c'] at q; have := old i (by omega); omega
    · rw [if_neg c, if_neg c'] at q; exact h.inj i i' (by omega) (by omega) q
  · by_cases c : i = j + 1
    · subst c; rw [if_pos rfl, new, hx]; rfl
    · rw [if_neg c, keep _ _ (old i (by omega)) (fun _ => by decide)]; exact h.x i (by omega)
  · by_cases c : i = j + 1
    · subst c; rw [if_pos rfl, new, hy]; rfl
    · rw [if_neg c, keep _ _ (old i (by omega)) (fun _ => by decide)]; exact h.y i (by omega)
  · by_cases c : i = j
    · subst c; rw [if_neg (by omega), if_pos rfl]; exact own
    · rw [if_neg (by omega), if_neg (by omega), keep _ _ (old i (by omega)) (fun q => absurd (h.inj i j (by omega) (by omega) q) c)]; exact h.next i (by omega)
  · rw [if_pos rfl, new]; rfl
  · by_cases c : i = j + 1
    · subst c; rw [if_pos rfl]; exact newF _
    · rw [if_neg c, keepF _ _ (old i (by omega))]; exact h.free i (by omega)
  · subst e
    by_cases c : i = j + 1
    · rw [if_pos c]
      have := Plain.new ((w.setCell ⟨bs j, 2, none⟩ (.pointer (some ⟨w.heap.size + 1, 0, none⟩))).alloc o) #[.int .i64 x, .int .i64 y, .pointer none] 75
      rw [World.size_alloc, size_setCell_] at this
      exact this
    · rw [if_neg c]; exact (((h.blk i (by omega)).setCell _ _).alloc _).alloc _
theorem Chain.close {w w2 : World} {lo : Nat} {l : List Pt} {bs : Nat → Nat} (h : Chain w lo bs l (l.length - 1)) (h3 : 3 ≤ l.length) (h12 : l.length ≤ 12)
    (e : w2 = w.setCell ⟨bs (l.length - 1), 2, none⟩ (.pointer (some ⟨bs 0, 0, none⟩))) : Ring w2 w.heap.size bs l := by
  subst e
  refine ⟨h3, h12, fun j hj => (h.lt j (by omega)).2, fun i j hi hj q => h.inj i j (by omega) (by omega) q, fun j hj => ?_, fun j hj => ?_, fun j hj => ?_, fun j hj => (h.blk j (by omega)).setCell _ _⟩
  · rw [World.cell?_setCell_other _ _ _ _ (by intro e; injection e with e1 e2; exact absurd e2 (by decide))]; exact h.x j (by omega)
  · rw [World.cell?_setCell_other _ _ _ _ (by intro e; injection e with e1 e2; exact absurd e2 (by decide))]; exact h.y j (by omega)
  · by_cases c : j = l.length - 1
    · subst c
      rw [show l.length - 1 + 1 = l.length from by omega, Nat.mod_self]
      exact World.cell?_setCell_same _ _ _ h.last
    · rw [World.cell?_setCell_other _ _ _ _ (by intro e; injection e with e1 e2; exact c (h.inj _ _ (by omega) (by omega) e1.symm)), Nat.mod_eq_of_lt (by omega)]
      exact h.next j (by omega)
theorem Ring.setCell {w : World} {top : Nat} {bs : Nat → Nat} {l : List Pt} (h : Ring w top bs l) {p : Addr} (hne : ∀ j, j < l.length → bs j ≠ p.block) (v : Value) : Ring (w.setCell p v) top bs l :=
  ⟨h.pos, h.most, h.lt, h.inj, fun j hj => (World.cell?_setCell_far _ _ _ _ (fun e => hne j hj e.symm)).trans (h.x j hj), fun j hj => (World.cell?_setCell_far _ _ _ _ (fun e => hne j hj e.symm)).trans (h.y j hj),
    fun j hj => (World.cell?_setCell_far _ _ _ _ (fun e => hne j hj e.symm)).trans (h.next j hj), fun j hj => (h.blk j hj).setCell _ _⟩
set_option maxRecDepth 100000 in
set_option maxHeartbeats 2000000 in
theorem outline_yes (k : Nat) (A0 : Option Addr) (c0 : Nat) (l0 : List Pt) (w : World) (hr0 : Kd.C k32 w A0 l0.length l0) (hc0 : l0.length ≤ c0) (h : impl_cornersValid.f k l0 = some true)
    (h3 : 3 ≤ l0.length) (h12 : l0.length ≤ 12) :
    Calls Try.prog 43 #[.slice A0 l0.length c0] w (Linked w l0) := by
  obtain ⟨ad, rfl, hx0, hy0⟩ := at_T32 hr0 0 (by omega) (by omega)
  have e0 : ad.add (Int.toNat 0 * 2) = ad := by simp [Addr.add]
  rw [e0] at hx0 hy0
  have HR0 := Aside0.mk hr0
  clear e0
  have HC0 := Aside0.mk hc0
  have H := Aside0.mk h
  have l1 : (0 : Int) < l0.length := by omega
  have l2 : (1 : Int) ≤ l0.length := by omega
  have l3 : ¬ c0 = 1 := by omega
  have l4 : (1 : Int) ≤ c0 := by omega
  clear hr0 hc0 h
  go_enter Try.func43, Try.ntmps43
  go_wp2_with (go_at_call 47; refine (impl_cornersValid.calls k _ _ l0 true _ ?s1 ?s2 H.out).mono ?_; (case s1 => exact qq61); (case s2 => exact HC0.out); rintro e w1 ⟨rfl, hb⟩; have hz : w.heap.size + 1 ≤ w1.heap.size := qq74; have HB := Aside0.mk (((Below.refl w.heap.size w).alloc (Nat.le_refl _) _).trans (hb.mono (by simp))); replace hx0 := (HB.out.cell (World.block_lt_of_cell? w _ hx0)).trans hx0; replace hy0 := (HB.out.cell (World.block_lt_of_cell? w _ hy0)).trans hy0; obtain ⟨hc, hf⟩ := bcell hb; clear hb; simp only [World.size_alloc] at hc hf)
  have HC := Aside0.mk (show Chain (w1.alloc (.cells #[.int .i64 (rd_T32 l0 0).f0, .int .i64 (rd_T32 l0 0).f1, .pointer none] 75)) w1.heap.size (fun _ => w1.heap.size) l0 0 from Chain.first (by rw [← at_rd]; rfl) (by rw [← at_rd]; rfl))
  have HW := Aside0.mk (show Below w1.heap.size w1 (w1.alloc (.cells #[.int .i64 (rd_T32 l0 0).f0, .int .i64 (rd_T32 l0 0).f1, .pointer none] 75)) from (Below.refl _ _).alloc (Nat.le_refl _) _)
  go_loopw [5, 21] (fun v5 v21 wr => ∃ (j : Nat) (bs : Nat → Nat), j < l0.length ∧ v21 = .int .i64 j ∧ v5 = .pointer (some ⟨bs j, 0, none⟩) ∧ Aside0 (bs 0 = w1.heap.size) ∧ Aside0 (Chain wr w1.heap.size bs l0 j) ∧ Aside0 (Below w1.heap.size w1 wr)) (fun _ v21 _ => l0.length - (intOf v21).toNat)
  case atStart => exact ⟨0, fun _ => w1.heap.size, by omega, rfl, rfl, ⟨rfl⟩, HC, HW⟩
  case round =>
    clear HC HW
    obtain ⟨j, bs, hj, rfl, rfl, HB0, HC, HW⟩ := hrel
    by_cases hlt : j < l0.length - 1
    · obtain ⟨ad', e', hX0, hY0⟩ := at_T32 HR0.out ((j + 1 : Nat) : Int) (by omega) (by omega)
      cases e'
      rw [show ((j + 1 : Nat) : Int).toNat * 2 = 2 + j * 2 from by omega, add_pos ad (by omega)] at hX0 hY0
      dsimp only at hY0
      have hb2 : Below w.heap.size w wr := HB.out.trans (HW.out.mono (by omega))
      have hX : wr.cell? ⟨ad.block, ad.off + 2 + j * 2, none⟩ = some (.int .i64 (rd_T32 l0 ((j + 1 : Nat) : Int)).f0) := by
        rw [← hX0, Nat.add_assoc]; exact hb2.cell (World.block_lt_of_cell? w _ hX0)
      have hY : wr.cell? ⟨ad.block, ad.off + 2 + j * 2 + 1, none⟩ = some (.int .i64 (rd_T32 l0 ((j + 1 : Nat) : Int)).f1) := by
        rw [← hY0, Nat.add_assoc ad.off]; exact hb2.cell (World.block_lt_of_cell? w _ hY0)
      have hL := HC.out.last
      have hLf := HC.out.free j (Nat.le_refl _)
      have hLt := (HC.out.lt j (Nat.le_refl _)).2
      have hLn : ¬ wr.heap.size = bs j := by omega
      have hLn2 : ¬ wr.heap.size + 1 = bs j := by omega
      clear hX0 hY0 hb2 hc hf hx0 hy0
      rw [at_rd] at hX hY
      go_wp2
      go_roundw
      case rel => exact ⟨j + 1, fun i => if i = j + 1 then wr.heap.size + 1 else bs i, by omega, by go_num, by simp, ⟨by dsimp only; rw [if_neg (by omega)]; exact HB0.out⟩, ⟨Chain.step HC.out rfl rfl HW.out.size rfl⟩, ⟨((HW.out.setCell (p := ⟨bs j, 2, none⟩) (HC.out.lt j (Nat.le_refl _)).1 _).alloc (by simpa using HW.out.size) _).alloc (by have := HW.out.size; simp; omega) _⟩⟩
      case measure => simp [intOf]; omega
    · obtain rfl : j = l0.length - 1 := by omega
      have hL := HC.out.last
      have hLf := HC.out.free _ (Nat.le_refl _)
      have hLt := HC.out.lt _ (Nat.le_refl _)
      have hN : ¬ bs (l0.length - 1) = w.heap.size := by omega
      have r0 := (HW.out.cell (p := ⟨w.heap.size, 0, none⟩) (by dsimp only; omega)).trans (hc w.heap.size 0 (by omega))
      have r1 := (HW.out.cell (p := ⟨w.heap.size, 1, none⟩) (by dsimp only; omega)).trans (hc w.heap.size 1 (by omega))
      have q0 := (HW.out.frozen (p := ⟨w.heap.size, 0, none⟩) (by dsimp only; omega)).trans (hf w.heap.size 0 (by omega))
      have q1 := (HW.out.frozen (p := ⟨w.heap.size, 1, none⟩) (by dsimp only; omega)).trans (hf w.heap.size 1 (by omega))
      simp [go_sem] at r0 r1 q0 q1
      clear hc hf hx0 hy0
      go_wp2
      refine bodyPost_ret (v := .tuple #[.agg #[.pointer (some ⟨bs 0, 0, none⟩), .int .i64 l0.length], .bool true]) ?_ rfl ?_
      · have hB0 := HB0.out
        rw [hB0]
        simp [results, Try.results43, go_sem, r0, r1, hN, Ne.symm hN]
      · have hB0 := HB0.out
        have hlo := HC.out.lt
        rw [← hB0]
        refine ⟨bs, rfl, ?_, fun j hj => by have := (hlo j (by omega)).1; omega, ?_⟩
        · refine ((((Chain.close HC.out h3 h12 rfl).setCell (p := ⟨w.heap.size, 0, none⟩) (fun j hj => ?_) _).setCell (p := ⟨w.heap.size, 1, none⟩) (fun j hj => ?_) _).mono (by simp))
          all_goals (have := (hlo j (by omega)).1; dsimp only; omega)
        · exact (((HB.out.trans (HW.out.mono (by omega))).setCell (p := ⟨bs (l0.length - 1), 2, none⟩) (by have := (hlo _ (Nat.le_refl _)).1; dsimp only; omega) _).setCell (p := ⟨w.heap.size, 0, none⟩) (by simp) _).setCell (p := ⟨w.heap.size, 1, none⟩) (by simp) _
set_option maxRecDepth 100000 in
set_option maxHeartbeats 2000000 in
theorem outline_no (k : Nat) (A0 : Option Addr) (c0 : Nat) (l0 : List Pt) (w : World) (hr0 : Kd.C k32 w A0 l0.length l0) (hc0 : l0.length ≤ c0) (h : impl_cornersValid.f k l0 = some false) :
    Calls Try.prog 43 #[.slice A0 l0.length c0] w fun e w' => e = .returned (.tuple #[.agg #[.pointer none, .int .i64 0], .bool false]) ∧ Below w.heap.size w w' := by
  have HR0 := Aside0.mk hr0
  have HC0 := Aside0.mk hc0
  have H := Aside0.mk h
  clear hr0 hc0 h
  go_enter Try.func43, Try.ntmps43
  go_wp2_with (go_at_call 47; refine (impl_cornersValid.calls k _ _ l0 false _ ?s1 ?s2 H.out).mono ?_; (case s1 => exact qq61); (case s2 => exact HC0.out); rintro e w' ⟨rfl, hb⟩; have hz : w.heap.size + 1 ≤ w'.heap.size := qq74; have HB := Aside0.mk (((Below.refl w.heap.size w).alloc (Nat.le_refl _) _).trans (hb.mono (by simp))); obtain ⟨hc, hf⟩ := bcell hb; clear hb; simp only [World.size_alloc] at hc hf)
  refine bodyPost_ret (v := .tuple #[.agg #[.pointer none, .int .i64 0], .bool false]) ?_ rfl ⟨rfl, ?_⟩
  · have z1 := hc w.heap.size 0 (by omega)
    have z2 := hc w.heap.size 1 (by omega)
    simp [results, Try.results43, go_sem, z1, z2]
  · exact HB.out.setCell (by simp) _ |>.setCell (by simp) _

end Go.Proofs.Ytgdhgncdpmalcaa.Ring
namespace Go.Proofs.Ytgdhgncdpmalcaa.Ring
open Go.RowKit Go.Shelf Go.Proofs.Ytgdhgncdpmalcaa.Q Go.Proofs.YtgdhgncdpmalcaaW.PrintWords Go.Proofs.YtgdhgncdpmalcaaW.PrintLast Go.Proofs.YtgdhgncdpmalcaaW.PrintMore
set_option linter.unusedVariables false
set_option linter.unusedSimpArgs false
attribute [local go_sem] Oper.semAt_some
set_option maxRecDepth 100000 in
set_option maxHeartbeats 1000000 in
theorem corners_in (l : Nat) (J : Nat → World → Prop) (Jx : World → Prop) (top : Nat) (bs : Nat → Nat) (ps : List Pt) (W : World) (hR : Ring W top bs ps) (htop : top ≤ W.heap.size)
    (hJa : ∀ W1 o, J 0 W1 → J 0 (W1.alloc o))
    (hY : ∀ k W1, k < ps.length → J k W1 → Below top W W1 → YieldAt Fence.wide 0 Try.prog l #[.pointer (some ⟨bs k, 0, none⟩)] W1 (fun e W' => (e = .returned (.bool true) ∧ J (k + 1) W' ∧ Below top W1 W') ∨ (e = .returned (.bool false) ∧ Jx W')))
    (h0 : J 0 W) :
    CallsIn Fence.wide 0 Try.prog 61 #[.agg #[.pointer (some ⟨bs 0, 0, none⟩), .int .i64 ps.length], .func (.yield l) #[] #[]] W fun e W' => (∃ v, e = .returned v) ∧ (J ps.length W' ∨ Jx W') := by
  have h3 := hR.pos
  have h12 := hR.most
  have H0 := Aside0.mk (hJa _ (.cells #[.pointer (some ⟨bs 0, 0, none⟩), .int .i64 ps.length] 54) h0)
  have HB := Aside0.mk ((Below.refl top W).alloc htop (.cells #[.pointer (some ⟨bs 0, 0, none⟩), .int .i64 ps.length] 54))
  have HR := Aside0.mk hR
  have HT := Aside0.mk htop
  clear hR htop h0
  refine callsIn_of_wp Try.func61 rfl trivial ?_ rfl
  simp only [Try.ntmps61, List.size_toArray, List.length_cons, List.length_nil, Nat.reduceAdd, Nat.reduceSub, Array.replicate_succ, Array.replicate_zero, List.push_toArray, List.append_toArray, List.nil_append, List.cons_append]
  gi_wp2
  gi_loopw [4, 9] (fun v4 v9 wr => ∃ k : Nat, k ≤ ps.length ∧ v9 = .int .i64 k ∧ v4 = .pointer (some ⟨bs (k % ps.length), 0, none⟩) ∧ Aside0 (J k wr) ∧ Aside0 (Below top W wr)) (fun _ v9 _ => ps.length - (intOf v9).toNat)
  case atStart => exact ⟨0, by omega, rfl, by rw [Nat.zero_mod], H0, HB⟩
  case round =>
    clear H0 HB
    obtain ⟨k, hk, rfl, rfl, HJ, HB⟩ := hrel
    by_cases hlt : k < ps.length
    · obtain ⟨fn, tmps, assign, body, hy, hRd⟩ := hY k wr hlt HJ.out HB.out
      rw [Nat.mod_eq_of_lt hlt]
      gi_wp2
      refine ⟨rfl, hRd.mono ?_⟩
      rintro e W' (⟨rfl, hJ', hb'⟩ | ⟨rfl, hx'⟩)
      · have hn := (HR.out.below (HB.out.trans hb')).next k hlt
        gi_wp2
        go_roundw
        case rel => exact ⟨k + 1, by omega, by go_num, rfl, ⟨hJ'⟩, ⟨HB.out.trans hb'⟩⟩
        case measure => simp [intOf]; omega
      · gi_wp2
        refine bodyPost_ret (results_none rfl _ _ _) rfl ?_
        exact ⟨⟨_, rfl⟩, .inr hx'⟩
    · obtain rfl : k = ps.length := by omega
      gi_wp2
      go_end0
      exact ⟨⟨_, rfl⟩, .inl HJ.out⟩
/-- How the body of a round may be left. -/
def ringPost (B top : Nat) (I : Nat → World → Prop) (Ix : Code → World → Prop) (k : Nat) (W : World) : Exit → Act → World → Prop
  | .normal, _, W' => KeepsFrom B W W' ∧ Below top W W' ∧ I k W'
  | .ret, _, W' => KeepsFrom B W W' ∧ Ix .ret W'
  | .exit id, _, W' => KeepsFrom B W W' ∧ Ix (.exit id) W'
  | .goto t, _, W' => KeepsFrom B W W' ∧ Ix (.goto t) W'
  | .panic _, _, _ => False
  | .outgrown, _, _ => False

theorem zip_one (t : Array Value) (p : Tmp) (v : Value) : ((#[p].zip #[v]).foldl (fun tmps (t, a) => tmps.setIfInBounds t a) t) = t.setIfInBounds p v := by simp
/-- 'for c := range o.corners { .. }' over a ring: the rounds come in the corners' order. -/
theorem range_ring {g : Operand} {p : Tmp} {assign body : Code} {Q : Exit → Act → World → Prop} {a : Act} {w : World} (top : Nat) (bs : Nat → Nat) (ps : List Pt) (hR : Ring w top bs ps) (htop : top ≤ w.heap.size)
    (hg : a.eval g = .func (.func 61) #[.agg #[.pointer (some ⟨bs 0, 0, none⟩), .int .i64 ps.length]] #[])
    (I : Nat → World → Prop) (Ix : Code → World → Prop) (hI : OwnFrom w.heap.size I) (hIx : OwnFrom w.heap.size Ix) (h0 : I 0 w) (a₁ : Nat → Act)
    (hassign : ∀ (l k : Nat) (W : World) (K : Act → World → Prop), K (a₁ k) W →
      assign.wpIn (Fence.wide.inRound l) 0 Try.prog (Exit.then K (fun _ _ _ => False)) { tmps := a.tmps.setIfInBounds p (.pointer (some ⟨bs k, 0, none⟩)), defers := [] } W)
    (hbody : ∀ (l k : Nat) (W : World), k < ps.length → I k W → Below top w W → body.wpIn (Fence.wide.inRound l) 0 Try.prog (ringPost w.heap.size top I Ix (k + 1) W) (a₁ k) W)
    (hdone : ∀ (D : Nat) (W : World), w.heap.size ≤ D → I ps.length W → W.heap[D]? = some (.deferred (some [])) → Q .normal { a with defers := { target := .collected D, args := #[] } :: a.defers } W)
    (hstop : ∀ (D : Nat) (c : Code) (W : World), w.heap.size ≤ D → Ix c W → W.heap[D]? = some (.deferred (some [])) → c.wpIn Fence.wide 0 Try.prog Q { a with defers := { target := .collected D, args := #[] } :: a.defers } W) :
    (Code.rangeFunc g #[p] assign body).wpIn Fence.wide 0 Try.prog Q a w := by
  refine wpIn_rangeFunc fun fn _ => ?_
  obtain ⟨rec, hrec⟩ : ∃ rec : LoopState → Option Code → Loop, rec = fun st pe => { state := st, pending := pe, fn, tmps := a.tmps, params := #[p], assign, body, defers := w.heap.size } := ⟨_, rfl⟩
  obtain ⟨V, hV⟩ : ∃ V, (w.alloc (.deferred (some []))).alloc (.loop (rec .ready none)) = V := ⟨_, rfl⟩
  have vl : V.heap[w.heap.size + 1]? = some (.loop (rec .ready none)) := by
    have := World.alloc_heap_new (w.alloc (.deferred (some []))) (.loop (rec .ready none)); rw [World.size_alloc, hV] at this; exact this
  have vd : V.heap[w.heap.size]? = some (.deferred (some [])) := by
    rw [← hV]; exact (Below.heap_alloc _ _ _ (by simp)).trans (World.alloc_heap_new w _)
  have vb : Below top w V := by rw [← hV]; exact ((Below.refl _ w).alloc htop _).alloc (by simp; omega) _
  have vs : V.heap.size = w.heap.size + 2 := by rw [← hV]; simp
  have vI : I 0 V := by rw [← hV]; exact hI.alloc _ (hI.alloc _ h0)
  refine ⟨w.heap.size + 1, [{ target := .collected w.heap.size, args := #[] }], V, { target := .fn (.func 61) #[], args := #[.agg #[.pointer (some ⟨bs 0, 0, none⟩), .int .i64 ps.length], .func (.yield (w.heap.size + 1)) #[] #[]] }, V, 61,
    #[.agg #[.pointer (some ⟨bs 0, 0, none⟩), .int .i64 ps.length], .func (.yield (w.heap.size + 1)) #[] #[]], V, ?_, ?_, fun _ _ => trivial, ?_, ?_, ?_⟩
  · rw [← hV, hrec]; exact run_enterLoop_outer _ _ _ _ _
  · simp only [resolve, hg]; simp [go_sem]
  · simp [invoke, go_sem]
  · intro h; simp [Fence.wide] at h
  · have hl : ∀ {W : World} {o : Obj} {r : Nat}, W.heap[r]? = some o → r < W.heap.size := fun h => (Array.getElem?_eq_some_iff.1 h).1
    refine (corners_in (w.heap.size + 1) (fun k W => I k W ∧ W.heap[w.heap.size + 1]? = some (.loop (rec .ready none)) ∧ W.heap[w.heap.size]? = some (.deferred (some [])))
      (fun W => ∃ c, Ix c W ∧ W.heap[w.heap.size + 1]? = some (.loop (rec .done (some c))) ∧ W.heap[w.heap.size]? = some (.deferred (some [])))
      top bs ps V (hR.below vb) (by omega) ?_ ?_ ⟨vI, vl, vd⟩).mono ?_
    · rintro W1 o ⟨i1, l1, d1⟩
      exact ⟨hI.alloc _ i1, (Below.heap_alloc _ _ _ (hl l1)).trans l1, (Below.heap_alloc _ _ _ (hl d1)).trans d1⟩
    · rintro k W hk ⟨i1, l1, d1⟩ hb
      have hy := run_yield (P := Try.prog) (args := #[.pointer (some ⟨bs k, 0, none⟩)]) l1 (by rw [hrec]; rfl)
      rw [hrec] at hy
      dsimp only at hy
      rw [zip_one] at hy
      refine ⟨fn, _, assign, body, hy, roundIn_of_wpIn trivial (hassign _ k W _ ?_)⟩
      refine ⟨_, run_beginRound l1 (by rw [hrec]), ?_⟩
      obtain ⟨W2, hW2⟩ : ∃ W2, W.putObj (w.heap.size + 1) (.loop { rec .ready none with state := .busy }) = W2 := ⟨_, rfl⟩
      have l2 : W2.heap[w.heap.size + 1]? = some (.loop { rec .ready none with state := .busy }) := by rw [← hW2]; exact World.putObj_heap_same (hl l1)
      have d2 : W2.heap[w.heap.size]? = some (.deferred (some [])) := by rw [← hW2]; exact (World.putObj_heap_other (by omega)).trans d1
      have i2 : I k W2 := by rw [← hW2]; exact hI.putObj _ i1 (by omega) l1 rfl
      have b2 : Below top W W2 := by rw [← hW2]; exact belowK_b (w := w) htop _ _ _ _ (by omega) l1 rfl rfl
      rw [hW2]
      refine wpIn_mono (hbody _ k W2 hk i2 (vb.trans (hb.trans b2))) ?_
      have fin : ∀ (jump : Option Code) (W3 : World), KeepsFrom w.heap.size W2 W3 → ∃ W4, (Instr.endRound (w.heap.size + 1) jump).run Try.prog W3 = .ok (.bool jump.isNone) W4 ∧
          W4 = W3.putObj (w.heap.size + 1) (.loop (rec (if jump.isNone then .ready else .done) jump)) ∧ W3.heap[w.heap.size + 1]? = some (.loop { rec .ready none with state := .busy }) ∧
          W4.heap[w.heap.size + 1]? = some (.loop (rec (if jump.isNone then .ready else .done) jump)) ∧ W4.heap[w.heap.size]? = some (.deferred (some [])) := by
        intro jump W3 hk3
        have l3 := hk3.same _ _ (by omega) l2 rfl
        have d3 := hk3.same _ _ (Nat.le_refl _) d2 rfl
        have e3 := run_endRound (P := Try.prog) jump l3
        rw [hrec] at e3 l3 ⊢
        exact ⟨_, e3, rfl, l3, World.putObj_heap_same (hl l3), (World.putObj_heap_other (by omega)).trans d3⟩
      intro e a3 W3 hp
      cases e with
      | normal =>
        obtain ⟨hk3, hb3, hi3⟩ := hp
        obtain ⟨W4, hr, rfl, l3, l4, d4⟩ := fin none W3 hk3
        exact ⟨_, _, hr, .inl ⟨rfl, ⟨hI.putObj _ hi3 (by omega) l3 rfl, l4, d4⟩, b2.trans (hb3.trans (belowK_b (w := w) htop _ _ _ _ (by omega) l3 rfl rfl))⟩⟩
      | ret =>
        obtain ⟨hk3, hi3⟩ := hp
        obtain ⟨W4, hr, rfl, l3, l4, d4⟩ := fin (some .ret) W3 hk3
        exact ⟨_, _, hr, .inr ⟨rfl, .ret, hIx.putObj _ hi3 (by omega) l3 rfl, l4, d4⟩⟩
      | exit id =>
        obtain ⟨hk3, hi3⟩ := hp
        obtain ⟨W4, hr, rfl, l3, l4, d4⟩ := fin (some (.exit id)) W3 hk3
        exact ⟨_, _, hr, .inr ⟨rfl, .exit id, hIx.putObj _ hi3 (by omega) l3 rfl, l4, d4⟩⟩
      | goto t =>
        obtain ⟨hk3, hi3⟩ := hp
        obtain ⟨W4, hr, rfl, l3, l4, d4⟩ := fin (some (.goto t)) W3 hk3
        exact ⟨_, _, hr, .inr ⟨rfl, .goto t, hIx.putObj _ hi3 (by omega) l3 rfl, l4, d4⟩⟩
      | panic ch => exact hp.elim
      | outgrown => exact hp.elim
    · rintro e W2 ⟨⟨v, rfl⟩, (⟨hi, l2, d2⟩ | ⟨c, hi, l2, d2⟩)⟩
      · have er := run_endLoop (P := Try.prog) l2 (by rw [hrec]; simp)
        rw [hrec] at er
        exact ⟨none, _, er, hdone _ _ (Nat.le_refl _) (hI.putObj _ hi (by omega) l2 rfl) ((World.putObj_heap_other (by omega)).trans d2)⟩
      · have er := run_endLoop (P := Try.prog) l2 (by rw [hrec]; simp)
        rw [hrec] at er
        exact ⟨some c, _, er, hstop _ c _ (Nat.le_refl _) (hIx.putObj _ hi (by omega) l2 rfl) ((World.putObj_heap_other (by omega)).trans d2)⟩

end Go.Proofs.Ytgdhgncdpmalcaa.Ring
namespace Go.Proofs.Ytgdhgncdpmalcaa.Drawn
open Go Go.RowKit
set_option linter.unusedVariables false
set_option linter.unusedSimpArgs false

theorem put_comm {a : Act} {d d' : Option Tmp} {v v' : Value} (h : ∀ t, d = some t → d' ≠ some t) : (a.put d v).put d' v' = (a.put d' v').put d v := by
  cases d with
  | none => rfl
  | some t =>
    cases d' with
    | none => rfl
    | some t' =>
      have ht : t ≠ t' := fun e => h t rfl (by rw [e])
      simp only [Act.put]
      rw [Array.setIfInBounds_comm v v' ht]

/-- The frame behind the operations that are listed. -/
def fill : List (Option Tmp × Value) → List Bool → Act → Act
  | (d, v) :: r, b :: bs, a => fill r bs (if b then a.put d v else a)
  | _, _, a => a

theorem fill_put {d : Option Tmp} {v : Value} : ∀ (vs : List (Option Tmp × Value)) (L : List Bool) (a : Act), (∀ t, d = some t → t ∉ vs.filterMap (·.1)) → fill vs L (a.put d v) = (fill vs L a).put d v
  | [], L, a, _ => by cases L <;> rfl
  | (d', v') :: r, [], a, _ => rfl
  | (d', v') :: r, b :: bs, a, h => by
    simp only [fill]
    have h2 : ∀ t, d = some t → t ∉ r.filterMap (·.1) := fun t e hm => h t e (by cases d' <;> simp_all)
    cases b with
    | false => exact fill_put r bs a h2
    | true =>
      simp only [if_true]
      rw [put_comm (fun t e => by rintro rfl; exact h t e (by simp)), fill_put r bs _ h2]

theorem fill_set : ∀ (vs : List (Option Tmp × Value)) (L : List Bool) (a : Act) (i : Nat) (d : Option Tmp) (v : Value), (vs.filterMap (·.1)).Nodup → vs[i]? = some (d, v) → L[i]? = some false →
    fill vs (L.set i true) a = (fill vs L a).put d v
  | [], _, _, i, _, _, _, h, _ => by simp at h
  | _ :: _, [], _, i, _, _, _, _, h => by simp at h
  | (d', v') :: r, b :: bs, a, 0, d, v, hn, hv, hl => by
    simp only [List.getElem?_cons_zero, Option.some.injEq, Prod.mk.injEq] at hv hl
    obtain ⟨rfl, rfl⟩ := hv
    subst hl
    simp only [List.set_cons_zero, fill, if_true]
    refine fill_put r bs a (fun t e hm => ?_)
    subst e
    simp at hn hm
    obtain ⟨x, hx⟩ := hm
    exact hn.1 x hx
  | (d', v') :: r, b :: bs, a, i + 1, d, v, hn, hv, hl => by
    simp only [List.getElem?_cons_succ] at hv hl
    simp only [List.set_cons_succ, fill]
    exact fill_set r bs _ i d v (by cases d' <;> simp_all) hv hl

theorem eval_put_other {a : Act} {d : Option Tmp} {v : Value} {t : Tmp} (h : d ≠ some t) : (a.put d v).eval (.tmp t) = a.eval (.tmp t) := by
  cases d with
  | none => rfl
  | some t' =>
    have ht : t' ≠ t := fun e => h (by rw [e])
    simp only [Act.put, Act.eval]
    simp [Array.getD_eq_getD_getElem?, Array.getElem?_setIfInBounds_ne ht]
theorem fill_base {t : Tmp} : ∀ (vs : List (Option Tmp × Value)) (L : List Bool) (a : Act), t ∉ vs.filterMap (·.1) → (fill vs L a).eval (.tmp t) = a.eval (.tmp t)
  | [], L, a, _ => by cases L <;> rfl
  | (d', v') :: r, [], a, _ => rfl
  | (d', v') :: r, b :: bs, a, h => by
    simp only [fill]
    rw [fill_base r bs _ (fun hm => h (by cases d' <;> simp_all))]
    cases b with
    | false => rfl
    | true => exact eval_put_other (by rintro rfl; exact h (by simp))
theorem fill_size : ∀ (vs : List (Option Tmp × Value)) (L : List Bool) (a : Act), (fill vs L a).tmps.size = a.tmps.size
  | [], L, a => by cases L <;> rfl
  | (d', v') :: r, [], a => rfl
  | (d', v') :: r, b :: bs, a => by
    simp only [fill]
    rw [fill_size r bs]
    cases b <;> cases d' <;> simp [Act.put]
theorem fill_eval {vs : List (Option Tmp × Value)} {L : List Bool} {a : Act} {j : Nat} {t : Tmp} {v : Value} (hn : (vs.filterMap (·.1)).Nodup) (hv : vs[j]? = some (some t, v)) (hl : L[j]? = some true) (ht : t < a.tmps.size) :
    (fill vs L a).eval (.tmp t) = v := by
  have hj : j < L.length := (List.getElem?_eq_some_iff.1 hl).1
  have e : (L.set j false).set j true = L := by
    rw [List.set_set]
    apply List.ext_getElem? fun k => ?_
    by_cases c : j = k
    · subst c; rw [List.getElem?_set_self hj, hl]
    · rw [List.getElem?_set_ne c]
  have := fill_set vs (L.set j false) a j (some t) v hn hv (by rw [List.getElem?_set_self hj])
  rw [e] at this
  rw [this]
  simp only [Act.put, Act.eval]
  simp [Array.getD_eq_getD_getElem?, fill_size, ht]

theorem eval_tmp (a : Act) (t : Tmp) : a.eval (.tmp t) = a.tmps[t]?.getD undef := by simp [Act.eval]
theorem fill_at {vs : List (Option Tmp × Value)} {L : List Bool} {a : Act} {j : Nat} {t : Tmp} {v : Value} (hn : (vs.filterMap (·.1)).Nodup) (hv : vs[j]? = some (some t, v)) (hl : L[j]? = some true) (ht : t < a.tmps.size) :
    (fill vs L a).tmps[t]?.getD undef = v := by rw [← eval_tmp]; exact fill_eval hn hv hl ht
theorem fill_old {t : Tmp} {v : Value} (vs : List (Option Tmp × Value)) (L : List Bool) (a : Act) (h : t ∉ vs.filterMap (·.1)) (hv : a.tmps[t]?.getD undef = v) : (fill vs L a).tmps[t]?.getD undef = v := by
  rw [← eval_tmp, fill_base vs L a h, eval_tmp]; exact hv

theorem vs_at {V0 VS : List (Option Tmp × Value)} {i : Nat} {d d' : Option Tmp} {v v' : Value} (hVS : V0 = VS) (hv : VS[i]? = some (d', v)) (h0 : V0[i]? = some (d, v')) : v' = v := by
  rw [← hVS, h0] at hv
  exact (Prod.mk.inj (Option.some.inj hv)).2
theorem fill_get {V0 VS : List (Option Tmp × Value)} {L : List Bool} {a : Act} {j M : Nat} {t : Tmp} {v : Value} (hn : (VS.filterMap (·.1)).Nodup) (hVS : V0 = VS) (hM : M < a.tmps.size) (h0 : V0[j]? = some (some t, v)) (ht : Nat.ble t M = true) (hl : L[j]? = some true) :
    (fill VS L a).tmps[t]?.getD undef = v := fill_at hn (by rw [← hVS]; exact h0) hl (Nat.lt_of_le_of_lt (Nat.le_of_ble_eq_true ht) hM)
theorem fill_getB {β : Type} {V0 VS : β → List (Option Tmp × Value)} {B : β} {L : List Bool} {a : Act} {j M : Nat} {t : Tmp} {v : Value} (hn : ∀ B, ((VS B).filterMap (·.1)).Nodup) (hVS : V0 = VS) (hM : M < a.tmps.size) (h0 : (V0 B)[j]? = some (some t, v)) (ht : Nat.ble t M = true) (hl : L[j]? = some true) :
    (fill (VS B) L a).tmps[t]?.getD undef = v := fill_at (hn B) (by rw [← hVS]; exact h0) hl (Nat.lt_of_le_of_lt (Nat.le_of_ble_eq_true ht) hM)
theorem wanted_is {o : Oper} {ops : Array Oper} {tmps : Array Value} {j : Nat} {t : Tmp} {b want : Bool} (hg : o.guard = some (j, want)) (hd : (ops[j]?).bind (·.dst) = some t) (hv : tmps[t]?.getD undef = .bool b) : Region.wanted o (yielded ops tmps) = (b == want) := by
  unfold Region.wanted yielded
  rw [hg]
  dsimp only
  rw [hd]
  cases h : tmps[t]? with
  | none => rw [h] at hv; exact absurd hv (by simp [undef])
  | some v =>
    rw [h] at hv
    obtain rfl : v = .bool b := hv
    simp [h]
/-- The law: each operation, once those that it must wait for are done, yields its value and keeps what is said of the world. -/
theorem drawn_region {F : Fence} {n : Nat} {P : Program} {id : Nat} {ops : Array Oper} {Q : Exit → Act → World → Prop} {a0 : Act} {w0 : World} (hm : P.follows .mixedOrders = true)
    (hac : ∀ i o, ops[i]? = some o → ∀ e ∈ o.after, Region.binds .any e = true → e.on < i)
    (vs : List (Option Tmp × Value)) (hd : vs.map (·.1) = ops.toList.map (·.dst)) (hn : (vs.filterMap (·.1)).Nodup)
    (S : List Bool → World → Prop) (h0 : S (List.replicate ops.size false) w0.drew)
    (hstep : ∀ (i : Nat) (o : Oper) (v : Value) (L : List Bool) (w : World), ops[i]? = some o → vs[i]? = some (o.dst, v) → L.length = ops.size → L[i]? = some false → (∀ e ∈ o.after, Region.binds .any e = true → L[e.on]? = some true) →
      (∀ (j : Nat) (o' : Oper), ops[j]? = some o' → L[j]? = some true → ∀ e ∈ o'.after, Region.binds .any e = true → L[e.on]? = some true) → S L w →
      ∀ K : Act → World → Prop, (∀ w', S (L.set i true) w' → K ((fill vs L a0).put o.dst v) w') → wpOpIn F n P ops Q i K (fill vs L a0) w)
    (hend : ∀ w, S (List.replicate ops.size true) w → Q .normal (fill vs (List.replicate ops.size true) a0) w) :
    (Code.region id ops true).wpIn F n P Q a0 w0 := by
  refine wpIn_region_any hm ?_
  have hlen : vs.length = ops.size := by have := congrArg List.length hd; simpa using this
  have rdy : ∀ (L : List Bool) (i : Nat), i ∈ Region.ready .any ops L.toArray ↔ ∃ o, ops[i]? = some o ∧ L.getD i true = false ∧ (∀ e ∈ o.after, Region.binds .any e = true → L.getD e.on false = true) := by
    intro L i
    unfold Region.ready
    simp only [List.mem_filter, List.mem_range, Bool.and_eq_true, Array.getD_eq_getD_getElem?, List.getElem?_toArray, ← List.getD_eq_getElem?_getD]
    constructor
    · rintro ⟨hi, h1, h2⟩
      rw [Array.getElem?_eq_getElem hi] at h2 ⊢
      refine ⟨_, rfl, by simpa using h1, fun e he hb => ?_⟩
      simp only [Option.map_some, Option.getD_some] at h2
      have := Array.all_eq_true_iff_forall_mem.1 h2 e he
      simpa [hb] using this
    · rintro ⟨o, ho, h1, h2⟩
      refine ⟨(Array.getElem?_eq_some_iff.1 ho).1, by rw [h1]; rfl, ?_⟩
      rw [ho]
      simp only [Option.map_some, Option.getD_some]
      refine Array.all_eq_true_iff_forall_mem.2 fun e he => ?_
      cases hb : Region.binds .any e with
      | false => simp
      | true => have := h2 e he hb; rw [this]; rfl
  have full : ∀ (L : List Bool), L.length = ops.size → Region.ready .any ops L.toArray = [] → L = List.replicate ops.size true := by
    intro L hl hr
    refine List.eq_replicate_iff.2 ⟨hl, fun b hb => ?_⟩
    have all : ∀ i, i < ops.size → L.getD i false = true := by
      intro i
      induction i using Nat.strongRecOn with
      | _ i ih =>
        intro hi
        apply Classical.byContradiction
        intro hf
        have hi' : i < L.length := by omega
        have : i ∈ Region.ready .any ops L.toArray := (rdy L i).2 ⟨_, Array.getElem?_eq_getElem hi, by simp [List.getD_eq_getElem?_getD, hi'] at hf ⊢; exact hf, fun e he hb' => ih _ (hac i _ (Array.getElem?_eq_getElem hi) e he hb') (by have := hac i _ (Array.getElem?_eq_getElem hi) e he hb'; omega)⟩
        rw [hr] at this
        cases this
    obtain ⟨i, hi, rfl⟩ := List.getElem_of_mem hb
    have := all i (by omega)
    simpa [List.getD_eq_getElem?_getD, hi] using this
  have main : ∀ (fuel : Nat) (L : List Bool) (w : World), L.length = ops.size → L.countP (fun b => !b) ≤ fuel → (∀ (j : Nat) (o' : Oper), ops[j]? = some o' → L[j]? = some true → ∀ e ∈ o'.after, Region.binds .any e = true → L[e.on]? = some true) → S L w → wpAnyIn F n P .any ops Q fuel L.toArray (fill vs L a0) w := by
    intro fuel
    induction fuel with
    | zero =>
      intro L w hl hc hcl hS
      have e : Region.ready .any ops L.toArray = [] := by
        rw [List.eq_nil_iff_forall_not_mem]
        intro i hi
        obtain ⟨o, ho, h1, _⟩ := (rdy L i).1 hi
        have hi' : i < L.length := by rw [hl]; exact (Array.getElem?_eq_some_iff.1 ho).1
        have h3 := List.countP_eq_zero.1 (Nat.le_zero.1 hc) L[i] (List.getElem_mem hi')
        simp [List.getD_eq_getElem?_getD, hi'] at h1
        simp [h1] at h3
      refine ⟨e, ?_⟩
      have := full L hl e
      subst this
      exact hend w hS
    | succ fuel ih =>
      intro L w hl hc hcl hS
      refine ⟨fun e => ?_, fun i hi => ?_⟩
      · have := full L hl e
        subst this
        exact hend w hS
      · obtain ⟨o, ho, h1, h2⟩ := (rdy L i).1 hi
        have hi' : i < L.length := by rw [hl]; exact (Array.getElem?_eq_some_iff.1 ho).1
        have hli : L[i]? = some false := by simp [List.getD_eq_getElem?_getD, hi'] at h1; rw [List.getElem?_eq_getElem hi', h1]
        have hiv : i < vs.length := by omega
        obtain ⟨v, hv⟩ : ∃ v, vs[i]? = some (o.dst, v) := by
          have := congrArg (fun l => l[i]?) hd
          simp only [List.getElem?_map, List.getElem?_eq_getElem hiv, Array.getElem?_toList, ho, Option.map_some, Option.some.injEq] at this
          exact ⟨vs[i].2, by rw [List.getElem?_eq_getElem hiv, ← this]⟩
        have h2' : ∀ e ∈ o.after, Region.binds .any e = true → L[e.on]? = some true := fun e he hb => by
          have := h2 e he hb
          rw [List.getD_eq_getElem?_getD] at this
          cases hq : L[e.on]? with
          | none => rw [hq] at this; cases this
          | some b => rw [hq] at this; exact congrArg some this
        refine hstep i o v L w ho hv hl hli h2' hcl hS _ (fun w' hS' => ?_)
        · rw [← fill_set vs L a0 i o.dst v hn hv hli, List.setIfInBounds_toArray]
          refine ih (L.set i true) w' (by simpa using hl) ?_ (fun j o' ho' hj e he hb => ?_) hS'
          rotate_left
          · by_cases c : i = j
            · subst c
              obtain rfl : o = o' := by rw [ho] at ho'; exact Option.some.inj ho'
              have := h2' e he hb
              by_cases c2 : i = e.on
              · rw [← c2, List.getElem?_set_self hi']
              · rw [List.getElem?_set_ne c2]; exact this
            · rw [List.getElem?_set_ne c] at hj
              by_cases c2 : i = e.on
              · rw [← c2, List.getElem?_set_self hi']
              · rw [List.getElem?_set_ne c2]; exact hcl j o' ho' hj e he hb
          have hc2 : (L.set i true).countP (fun b => !b) + 1 = L.countP (fun b => !b) := by
            rw [List.countP_set hi']
            have hb : L[i] = false := by rw [List.getElem?_eq_getElem hi'] at hli; simpa using hli
            have hp : 0 < L.countP (fun b => !b) := List.countP_pos_iff.2 ⟨L[i], List.getElem_mem hi', by simp [hb]⟩
            simp [hb]; omega
          omega
  have := main ops.size (List.replicate ops.size false) w0.drew (by simp) (by rw [List.countP_replicate]; simp) (fun j o' _ hj => by rw [List.getElem?_replicate] at hj; split at hj <;> simp at hj) h0
  rw [List.toArray_replicate] at this
  have e0 : fill vs (List.replicate ops.size false) a0 = a0 := by
    have : ∀ (vs : List (Option Tmp × Value)) (k : Nat) (a : Act), fill vs (List.replicate k false) a = a := by
      intro vs
      induction vs with
      | nil => intro k a; cases k <;> rfl
      | cons x r ih => intro k a; cases k with
        | zero => rfl
        | succ k => obtain ⟨d, v⟩ := x; simp only [List.replicate_succ, fill]; exact ih k a
    exact this _ _ _
  rw [e0] at this
  exact this
theorem fill_skip : ∀ (vs : List (Option Tmp × Value)) (L : List Bool) (a : Act) (i : Nat) (x : Option Tmp × Value), L[i]? = some false → fill (vs.set i x) L a = fill vs L a
  | [], L, _, _, _, _ => by cases L <;> rfl
  | _ :: _, [], _, i, _, h => by simp at h
  | (d', v') :: r, b :: bs, a, 0, (d, v), h => by
    simp only [List.getElem?_cons_zero, Option.some.injEq] at h
    subst h
    rfl
  | (d', v') :: r, b :: bs, a, i + 1, x, h => by
    simp only [List.getElem?_cons_succ] at h
    simp only [List.set_cons_succ, fill]
    exact fill_skip r bs _ i x h

/-- The law where the values (addresses of new blocks) are known only as the operations are done. -/
theorem drawn_any {F : Fence} {n : Nat} {P : Program} {id : Nat} {ops : Array Oper} {Q : Exit → Act → World → Prop} {a0 : Act} {w0 : World} (hm : P.follows .mixedOrders = true)
    (hac : ∀ i o, ops[i]? = some o → ∀ e ∈ o.after, Region.binds .any e = true → e.on < i)
    (hn : (ops.toList.filterMap (·.dst)).Nodup)
    (V : List Bool → List (Option Tmp × Value) → World → Prop) (hV : ∀ L vs w, V L vs w → vs.map (·.1) = ops.toList.map (·.dst)) (vs0 : List (Option Tmp × Value)) (h0 : V (List.replicate ops.size false) vs0 w0.drew)
    (hstep : ∀ (i : Nat) (o : Oper) (vs : List (Option Tmp × Value)) (L : List Bool) (w : World), ops[i]? = some o → L.length = ops.size → L[i]? = some false → (∀ e ∈ o.after, Region.binds .any e = true → L[e.on]? = some true) →
      (∀ (j : Nat) (o' : Oper), ops[j]? = some o' → L[j]? = some true → ∀ e ∈ o'.after, Region.binds .any e = true → L[e.on]? = some true) → V L vs w →
      ∀ K : Act → World → Prop, (∀ v w', V (L.set i true) (vs.set i (o.dst, v)) w' → K ((fill vs L a0).put o.dst v) w') → wpOpIn F n P ops Q i K (fill vs L a0) w)
    (hend : ∀ vs w, V (List.replicate ops.size true) vs w → Q .normal (fill vs (List.replicate ops.size true) a0) w) :
    (Code.region id ops true).wpIn F n P Q a0 w0 := by
  refine wpIn_region_any hm ?_
  have hlen : ∀ L vs w, V L vs w → vs.length = ops.size := fun L vs w h => by have := congrArg List.length (hV L vs w h); simpa using this
  have rdy : ∀ (L : List Bool) (i : Nat), i ∈ Region.ready .any ops L.toArray ↔ ∃ o, ops[i]? = some o ∧ L.getD i true = false ∧ (∀ e ∈ o.after, Region.binds .any e = true → L.getD e.on false = true) := by
    intro L i
    unfold Region.ready
    simp only [List.mem_filter, List.mem_range, Bool.and_eq_true, Array.getD_eq_getD_getElem?, List.getElem?_toArray, ← List.getD_eq_getElem?_getD]
    constructor
    · rintro ⟨hi, h1, h2⟩
      rw [Array.getElem?_eq_getElem hi] at h2 ⊢
      refine ⟨_, rfl, by simpa using h1, fun e he hb => ?_⟩
      simp only [Option.map_some, Option.getD_some] at h2
      have := Array.all_eq_true_iff_forall_mem.1 h2 e he
      simpa [hb] using this
    · rintro ⟨o, ho, h1, h2⟩
      refine ⟨(Array.getElem?_eq_some_iff.1 ho).1, by rw [h1]; rfl, ?_⟩
      rw [ho]
      simp only [Option.map_some, Option.getD_some]
      refine Array.all_eq_true_iff_forall_mem.2 fun e he => ?_
      cases hb : Region.binds .any e with
      | false => simp
      | true => have := h2 e he hb; rw [this]; rfl
  have full : ∀ (L : List Bool), L.length = ops.size → Region.ready .any ops L.toArray = [] → L = List.replicate ops.size true := by
    intro L hl hr
    refine List.eq_replicate_iff.2 ⟨hl, fun b hb => ?_⟩
    have all : ∀ i, i < ops.size → L.getD i false = true := by
      intro i
      induction i using Nat.strongRecOn with
      | _ i ih =>
        intro hi
        apply Classical.byContradiction
        intro hf
        have hi' : i < L.length := by omega
        have : i ∈ Region.ready .any ops L.toArray := (rdy L i).2 ⟨_, Array.getElem?_eq_getElem hi, by simp [List.getD_eq_getElem?_getD, hi'] at hf ⊢; exact hf, fun e he hb' => ih _ (hac i _ (Array.getElem?_eq_getElem hi) e he hb') (by have := hac i _ (Array.getElem?_eq_getElem hi) e he hb'; omega)⟩
        rw [hr] at this
        cases this
    obtain ⟨i, hi, rfl⟩ := List.getElem_of_mem hb
    have := all i (by omega)
    simpa [List.getD_eq_getElem?_getD, hi] using this
  have main : ∀ (fuel : Nat) (L : List Bool) (vs : List (Option Tmp × Value)) (w : World), L.length = ops.size → L.countP (fun b => !b) ≤ fuel → (∀ (j : Nat) (o' : Oper), ops[j]? = some o' → L[j]? = some true → ∀ e ∈ o'.after, Region.binds .any e = true → L[e.on]? = some true) → V L vs w → wpAnyIn F n P .any ops Q fuel L.toArray (fill vs L a0) w := by
    intro fuel
    induction fuel with
    | zero =>
      intro L vs w hl hc hcl hS
      have e : Region.ready .any ops L.toArray = [] := by
        rw [List.eq_nil_iff_forall_not_mem]
        intro i hi
        obtain ⟨o, ho, h1, _⟩ := (rdy L i).1 hi
        have hi' : i < L.length := by rw [hl]; exact (Array.getElem?_eq_some_iff.1 ho).1
        have h3 := List.countP_eq_zero.1 (Nat.le_zero.1 hc) L[i] (List.getElem_mem hi')
        simp [List.getD_eq_getElem?_getD, hi'] at h1
        simp [h1] at h3
      refine ⟨e, ?_⟩
      have := full L hl e
      subst this
      exact hend vs w hS
    | succ fuel ih =>
      intro L vs w hl hc hcl hS
      refine ⟨fun e => ?_, fun i hi => ?_⟩
      · have := full L hl e
        subst this
        exact hend vs w hS
      · obtain ⟨o, ho, h1, h2⟩ := (rdy L i).1 hi
        have hi' : i < L.length := by rw [hl]; exact (Array.getElem?_eq_some_iff.1 ho).1
        have hli : L[i]? = some false := by simp [List.getD_eq_getElem?_getD, hi'] at h1; rw [List.getElem?_eq_getElem hi', h1]
        have h2' : ∀ e ∈ o.after, Region.binds .any e = true → L[e.on]? = some true := fun e he hb => by
          have := h2 e he hb
          rw [List.getD_eq_getElem?_getD] at this
          cases hq : L[e.on]? with
          | none => rw [hq] at this; cases this
          | some b => rw [hq] at this; exact congrArg some this
        have hnv : (vs.filterMap (·.1)).Nodup := by
          have e := congrArg (fun l => l.filterMap (fun x : Option Tmp => x)) (hV L vs w hS)
          simp only [List.filterMap_map] at e
          have e2 : vs.filterMap (·.1) = ops.toList.filterMap (·.dst) := e
          rw [e2]; exact hn
        have hiv : i < vs.length := by rw [hlen L vs w hS]; omega
        refine hstep i o vs L w ho hl hli h2' hcl hS _ (fun v w' hS' => ?_)
        · have hnv' : ((vs.set i (o.dst, v)).filterMap (·.1)).Nodup := by
            have e := congrArg (fun l => l.filterMap (fun x : Option Tmp => x)) (hV _ _ _ hS')
            simp only [List.filterMap_map] at e
            have e2 : (vs.set i (o.dst, v)).filterMap (·.1) = ops.toList.filterMap (·.dst) := e
            rw [e2]; exact hn
          rw [← fill_skip vs L a0 i (o.dst, v) hli, ← fill_set (vs.set i (o.dst, v)) L a0 i o.dst v hnv' (by rw [List.getElem?_set_self hiv]) hli, List.setIfInBounds_toArray]
          refine ih (L.set i true) (vs.set i (o.dst, v)) w' (by simpa using hl) ?_ (fun j o' ho' hj e he hb => ?_) hS'
          rotate_left
          · by_cases c : i = j
            · subst c
              obtain rfl : o = o' := by rw [ho] at ho'; exact Option.some.inj ho'
              have := h2' e he hb
              by_cases c2 : i = e.on
              · rw [← c2, List.getElem?_set_self hi']
              · rw [List.getElem?_set_ne c2]; exact this
            · rw [List.getElem?_set_ne c] at hj
              by_cases c2 : i = e.on
              · rw [← c2, List.getElem?_set_self hi']
              · rw [List.getElem?_set_ne c2]; exact hcl j o' ho' hj e he hb
          have hc2 : (L.set i true).countP (fun b => !b) + 1 = L.countP (fun b => !b) := by
            rw [List.countP_set hi']
            have hb : L[i] = false := by rw [List.getElem?_eq_getElem hi'] at hli; simpa using hli
            have hp : 0 < L.countP (fun b => !b) := List.countP_pos_iff.2 ⟨L[i], List.getElem_mem hi', by simp [hb]⟩
            simp [hb]; omega
          omega
  have := main ops.size (List.replicate ops.size false) vs0 w0.drew (by simp) (by rw [List.countP_replicate]; simp) (fun j o' _ hj => by rw [List.getElem?_replicate] at hj; split at hj <;> simp at hj) h0
  rw [List.toArray_replicate] at this
  have e0 : fill vs0 (List.replicate ops.size false) a0 = a0 := by
    have : ∀ (vs : List (Option Tmp × Value)) (k : Nat) (a : Act), fill vs (List.replicate k false) a = a := by
      intro vs
      induction vs with
      | nil => intro k a; cases k <;> rfl
      | cons x r ih => intro k a; cases k with
        | zero => rfl
        | succ k => obtain ⟨d, v⟩ := x; simp only [List.replicate_succ, fill]; exact ih k a
    exact this _ _ _
  rw [e0] at this
  exact this
/-- The same, where one operation, the last one, waits for all the others and turns what is said of the world. -/
theorem drawn_last {F : Fence} {n : Nat} {P : Program} {id : Nat} {ops : Array Oper} {Q : Exit → Act → World → Prop} {a0 : Act} {w0 : World} (hm : P.follows .mixedOrders = true)
    (hac : ∀ i o, ops[i]? = some o → ∀ e ∈ o.after, Region.binds .any e = true → e.on < i)
    (m : Nat) (hsz : ops.size = m + 1) (hall : ∀ o, ops[m]? = some o → ∀ j, j < m → ∃ e ∈ o.after, Region.binds .any e = true ∧ e.on = j)
    (vs : List (Option Tmp × Value)) (hd : vs.map (·.1) = ops.toList.map (·.dst)) (hn : (vs.filterMap (·.1)).Nodup)
    (S S' : World → Prop) (h0 : S w0.drew)
    (hstep : ∀ (i : Nat) (o : Oper) (v : Value) (L : List Bool) (w : World), i < m → ops[i]? = some o → vs[i]? = some (o.dst, v) → (∀ e ∈ o.after, Region.binds .any e = true → L[e.on]? = some true) → S w →
      ∀ K : Act → World → Prop, (∀ w', S w' → K ((fill vs L a0).put o.dst v) w') → wpOpIn F n P ops Q i K (fill vs L a0) w)
    (hlast : ∀ (o : Oper) (v : Value) (L : List Bool) (w : World), ops[m]? = some o → vs[m]? = some (o.dst, v) → (∀ j, j < m → L[j]? = some true) → S w →
      ∀ K : Act → World → Prop, (∀ w', S' w' → K ((fill vs L a0).put o.dst v) w') → wpOpIn F n P ops Q m K (fill vs L a0) w)
    (hend : ∀ w, S' w → Q .normal (fill vs (List.replicate ops.size true) a0) w) :
    (Code.region id ops true).wpIn F n P Q a0 w0 := by
  refine drawn_region hm hac vs hd hn (fun L w => if L[m]? = some true then S' w else S w) ?_ ?_ ?_
  · rw [if_neg (by rw [List.getElem?_replicate]; split <;> simp)]; exact h0
  · intro i o v L w ho hv hl hli hpre hcl hS K hK
    by_cases c : i = m
    · subst c
      rw [if_neg (by rw [hli]; simp)] at hS
      refine hlast o v L w ho hv (fun j hj => ?_) hS K (fun w' hS' => hK w' (by rw [List.getElem?_set_self (by omega)]; simpa using hS'))
      obtain ⟨e, he, hb, rfl⟩ := hall o ho j hj
      exact hpre e he hb
    · have him : i < m := by have := (Array.getElem?_eq_some_iff.1 ho).1; omega
      have hLm : ¬ L[m]? = some true := by
        intro hLm
        obtain ⟨om, hom⟩ : ∃ om, ops[m]? = some om := ⟨_, Array.getElem?_eq_getElem (by omega)⟩
        obtain ⟨e, he, hb, h2⟩ := hall om hom i him
        have := hcl m om hom hLm e he hb
        rw [h2, hli] at this
        simp at this
      rw [if_neg hLm] at hS
      refine hstep i o v L w him ho hv hpre hS K (fun w' hS' => hK w' ?_)
      rw [List.getElem?_set_ne c, if_neg hLm]; exact hS'
  · intro w hS
    rw [if_pos (by rw [List.getElem?_replicate]; simp; omega)] at hS
    exact hend w hS

/-- The same, where nothing that is said of the world turns. -/
theorem drawn_same {F : Fence} {n : Nat} {P : Program} {id : Nat} {ops : Array Oper} {Q : Exit → Act → World → Prop} {a0 : Act} {w0 : World} (hm : P.follows .mixedOrders = true)
    (hac : ∀ i o, ops[i]? = some o → ∀ e ∈ o.after, Region.binds .any e = true → e.on < i)
    (vs : List (Option Tmp × Value)) (hd : vs.map (·.1) = ops.toList.map (·.dst)) (hn : (vs.filterMap (·.1)).Nodup)
    (S : World → Prop) (h0 : S w0.drew)
    (hstep : ∀ (i : Nat) (o : Oper) (v : Value) (L : List Bool) (w : World), ops[i]? = some o → vs[i]? = some (o.dst, v) → (∀ e ∈ o.after, Region.binds .any e = true → L[e.on]? = some true) → S w →
      ∀ K : Act → World → Prop, (∀ w', S w' → K ((fill vs L a0).put o.dst v) w') → wpOpIn F n P ops Q i K (fill vs L a0) w)
    (hend : ∀ w, S w → Q .normal (fill vs (List.replicate ops.size true) a0) w) :
    (Code.region id ops true).wpIn F n P Q a0 w0 :=
  drawn_region hm hac vs hd hn (fun _ w => S w) h0 (fun i o v L w ho hv _ _ hpre _ hS K hK => hstep i o v L w ho hv hpre hS K hK) hend

/-- Each operation waits for earlier ones alone. -/
def early (ops : Array Oper) : Bool := (List.range ops.size).all fun i => match ops[i]? with | some o => o.after.all fun e => !Region.binds .any e || decide (e.on < i) | none => true
theorem early_spec {ops : Array Oper} (h : early ops = true) : ∀ i o, ops[i]? = some o → ∀ e ∈ o.after, Region.binds .any e = true → e.on < i := by
  intro i o ho e he hb
  have := List.all_eq_true.1 h i (List.mem_range.2 (Array.getElem?_eq_some_iff.1 ho).1)
  rw [ho] at this
  have := Array.all_eq_true_iff_forall_mem.1 this e he
  simpa [hb] using this
/-- The last one waits for all. -/
def waits (ops : Array Oper) (m : Nat) : Bool := match ops[m]? with | some o => (List.range m).all fun j => o.after.any fun e => Region.binds .any e && e.on == j | none => true
theorem waits_spec {ops : Array Oper} {m : Nat} (h : waits ops m = true) : ∀ o, ops[m]? = some o → ∀ j, j < m → ∃ e ∈ o.after, Region.binds .any e = true ∧ e.on = j := by
  intro o ho j hj
  unfold waits at h
  rw [ho] at h
  have := List.all_eq_true.1 h j (List.mem_range.2 hj)
  obtain ⟨e, he, hb⟩ := Array.any_eq_true'.1 this
  simp only [Bool.and_eq_true, beq_iff_eq] at hb
  exact ⟨e, he, hb.1, hb.2⟩

/-- The frame under a name. -/
theorem act_name {F : Fence} {n : Nat} {P : Program} {c : Code} {Q : Exit → Act → World → Prop} {a : Act} {w : World} (h : ∀ A0, a = A0 → c.wpIn F n P Q A0 w) : c.wpIn F n P Q a w := h a rfl

/-- A fence that lets all in. -/
def WideF (P : Program) (F : Fence) : Prop := (∀ f, F.fn f) ∧ F.depth.isSome = false ∧ ∀ f args w R, Calls P f args w R → CallsIn F 0 P f args w R
theorem wide_plain (P : Program) : WideF P Fence.wide := ⟨fun _ => trivial, rfl, fun _ _ _ _ h => callsIn_wide.2 h⟩
theorem wide_round (P : Program) (r : Nat) : WideF P (Fence.wide.inRound r) := ⟨fun _ => trivial, rfl, fun _ _ _ _ h => CallsIn.inRound r (callsIn_wide.2 h)⟩
section steps
variable {F : Fence} {P : Program} {ops : Array Oper} {Q : Exit → Act → World → Prop} {i : Nat} {o : Oper} {K : Act → World → Prop} {a : Act} {w w' : World} {v : Value}
theorem st_val (hW : WideF P F) (ho : ops[i]? = some o) (hd : ∀ c, o.op ≠ .defer c) (hg : Region.wanted o (yielded ops a.tmps) = true) (hr : (execOp a.eval o).run P w = .ok (.value v) w') (h : K (a.put o.dst v) w') : wpOpIn F 0 P ops Q i K a w := by
  unfold wpOpIn
  rw [ho]
  dsimp only
  rw [if_pos hg]
  refine ⟨fun f _ => hW.1 f, ?_⟩
  rw [Oper.semAt_eq _ _ _ hd, hr]
  exact h
theorem st_skip (hW : WideF P F) (ho : ops[i]? = some o) (hd : ∀ c, o.op ≠ .defer c) (hg : Region.wanted o (yielded ops a.tmps) = true) (hr : (execOp a.eval o).run P w = .ok .skip w') (h : K (a.put o.dst undef) w') : wpOpIn F 0 P ops Q i K a w := by
  unfold wpOpIn
  rw [ho]
  dsimp only
  rw [if_pos hg]
  refine ⟨fun f _ => hW.1 f, ?_⟩
  rw [Oper.semAt_eq _ _ _ hd, hr]
  exact h
theorem st_call {f : FuncId} {args : Array Value} (hW : WideF P F) (ho : ops[i]? = some o) (hd : ∀ c, o.op ≠ .defer c) (hg : Region.wanted o (yielded ops a.tmps) = true) (hr : (execOp a.eval o).run P w = .ok (.enter f args) w)
    (h : Calls P f args w (fun e w'' => e = .returned v ∧ K (a.put o.dst v) w'')) : wpOpIn F 0 P ops Q i K a w := by
  unfold wpOpIn
  rw [ho]
  dsimp only
  rw [if_pos hg]
  refine ⟨fun f _ => hW.1 f, ?_⟩
  rw [Oper.semAt_eq _ _ _ hd, hr]
  refine ⟨fun h0 => (by rw [hW.2.1] at h0; exact absurd h0 (by decide)), (hW.2.2 _ _ _ _ h).mono ?_⟩
  rintro e w'' ⟨rfl, hK⟩
  exact hK
theorem st_unwanted (hW : WideF P F) (ho : ops[i]? = some o) (hg : Region.wanted o (yielded ops a.tmps) = false) (h : K (a.put o.dst undef) w) : wpOpIn F 0 P ops Q i K a w := by
  unfold wpOpIn
  rw [ho]
  dsimp only
  rw [if_neg (by rw [hg]; simp)]
  exact ⟨fun f _ => hW.1 f, h⟩
end steps
/-- New boxes of two numbers each, as far as they are laid (al) and filled (st). -/
structure Boxes (base : Nat) (S : World → Prop) (m : Nat) (al st : Nat → Nat) (P : Nat → Int × Int) (L : List Bool) (B : Nat → Nat) (w : World) : Prop where
  s : S w
  sz : base ≤ w.heap.size
  box : ∀ t, t < m → L[al t]? = some true → base ≤ B t ∧ B t < w.heap.size ∧ w.frozen? ⟨B t, 0, none⟩ = false ∧ w.frozen? ⟨B t, 1, none⟩ = false ∧ (∃ u, w.cell? ⟨B t, 0, none⟩ = some u) ∧ (∃ u, w.cell? ⟨B t, 1, none⟩ = some u) ∧
    (L[st t]? = some true → w.cell? ⟨B t, 0, none⟩ = some (.int .i64 (P t).1) ∧ w.cell? ⟨B t, 1, none⟩ = some (.int .i64 (P t).2))
  ne : ∀ t t', t < m → t' < m → t ≠ t' → L[al t]? = some true → L[al t']? = some true → B t ≠ B t'
section boxes
variable {base : Nat} {S : World → Prop} {m : Nat} {al st : Nat → Nat} {P : Nat → Int × Int} {L : List Bool} {B : Nat → Nat} {w : World}
theorem Boxes.keep (h : Boxes base S m al st P L B w) {i : Nat} (h1 : ∀ t, t < m → al t ≠ i) (h2 : ∀ t, t < m → st t ≠ i) : Boxes base S m al st P (L.set i true) B w :=
  ⟨h.s, h.sz, fun t ht hl => by
    rw [List.getElem?_set_ne (Ne.symm (h1 t ht))] at hl
    obtain ⟨a, b, c, d, e, f, g⟩ := h.box t ht hl
    exact ⟨a, b, c, d, e, f, fun hs => g (by rwa [List.getElem?_set_ne (Ne.symm (h2 t ht))] at hs)⟩,
   fun t t' ht ht' hne a b => h.ne t t' ht ht' hne (by rwa [List.getElem?_set_ne (Ne.symm (h1 t ht))] at a) (by rwa [List.getElem?_set_ne (Ne.symm (h1 t' ht'))] at b)⟩
theorem Boxes.alloc (h : Boxes base S m al st P L B w) {r : Nat} (hr : r < m) (hal : ∀ t, t < m → t ≠ r → al t ≠ al r) (hst : ∀ t, t < m → st t ≠ al r) (hno : L[st r]? ≠ some true) (T : TypeId) (hS : S (w.alloc (.cells #[.int .i64 0, .int .i64 0] T))) :
    Boxes base S m al st P (L.set (al r) true) (fun t => if t = r then w.heap.size else B t) (w.alloc (.cells #[.int .i64 0, .int .i64 0] T)) := by
  refine ⟨hS, by have := h.sz; simp; omega, fun t ht hl => ?_, fun t t' ht ht' hne a b => ?_⟩
  · by_cases c : t = r
    · subst c
      rw [if_pos rfl]
      refine ⟨h.sz, by simp, by simp [go_sem], by simp [go_sem], ⟨.int .i64 0, by simp [go_sem]⟩, ⟨.int .i64 0, by simp [go_sem]⟩, fun hs => ?_⟩
      rw [List.getElem?_set_ne (Ne.symm (hst t ht))] at hs
      exact absurd hs hno
    · rw [if_neg c]
      rw [List.getElem?_set_ne (Ne.symm (hal t ht c))] at hl
      obtain ⟨a, b, c1, d, ⟨u, e⟩, ⟨u', f⟩, g⟩ := h.box t ht hl
      have k := Below.alloc (Below.refl w.heap.size w) (Nat.le_refl _) (.cells #[.int .i64 0, .int .i64 0] T)
      have k0 := k.cell (p := ⟨B t, 0, none⟩) b
      have k1 := k.cell (p := ⟨B t, 1, none⟩) b
      refine ⟨a, by simp; omega, (k.frozen (p := ⟨B t, 0, none⟩) b).trans c1, (k.frozen (p := ⟨B t, 1, none⟩) b).trans d, ⟨u, k0.trans e⟩, ⟨u', k1.trans f⟩, fun hs => ?_⟩
      rw [List.getElem?_set_ne (Ne.symm (hst t ht))] at hs
      obtain ⟨g1, g2⟩ := g hs
      exact ⟨k0.trans g1, k1.trans g2⟩
  · have old : ∀ s, s < m → s ≠ r → (L.set (al r) true)[al s]? = some true → L[al s]? = some true := fun s hs c q => by rwa [List.getElem?_set_ne (Ne.symm (hal s hs c))] at q
    by_cases c : t = r <;> by_cases c' : t' = r
    · omega
    · rw [if_pos c, if_neg c']; have := (h.box t' ht' (old t' ht' c' b)).2.1; omega
    · rw [if_neg c, if_pos c']; have := (h.box t ht (old t ht c a)).2.1; omega
    · rw [if_neg c, if_neg c']; exact h.ne t t' ht ht' hne (old t ht c a) (old t' ht' c' b)
theorem Boxes.store (h : Boxes base S m al st P L B w) {r : Nat} (hr : r < m) (hst : ∀ t, t < m → t ≠ r → st t ≠ st r) (hal : ∀ t, t < m → al t ≠ st r) (hl : L[al r]? = some true)
    (hS : ∀ w' p v, base ≤ p.block → S w' → S (w'.setCell p v)) :
    Boxes base S m al st P (L.set (st r) true) B ((w.setCell ⟨B r, 0, none⟩ (.int .i64 (P r).1)).setCell ⟨B r, 1, none⟩ (.int .i64 (P r).2)) := by
  obtain ⟨a0, b0, c0, d0, ⟨u0, e0⟩, ⟨u1, e1⟩, _⟩ := h.box r hr hl
  refine ⟨hS _ _ _ a0 (hS _ _ _ a0 h.s), by simpa using h.sz, fun t ht hlt => ?_, fun t t' ht ht' hne a b => h.ne t t' ht ht' hne (by rwa [List.getElem?_set_ne (Ne.symm (hal t ht))] at a) (by rwa [List.getElem?_set_ne (Ne.symm (hal t' ht'))] at b)⟩
  rw [List.getElem?_set_ne (Ne.symm (hal t ht))] at hlt
  obtain ⟨a, b, c, d, ⟨u, e⟩, ⟨u', f⟩, g⟩ := h.box t ht hlt
  by_cases q : t = r
  · subst q
    have k0 : ((w.setCell ⟨B t, 0, none⟩ (.int .i64 (P t).1)).setCell ⟨B t, 1, none⟩ (.int .i64 (P t).2)).cell? ⟨B t, 0, none⟩ = some (.int .i64 (P t).1) := by
      rw [World.cell?_setCell_other _ _ _ _ (by intro z; injection z with z1 z2; exact absurd z2 (by decide))]
      exact World.cell?_setCell_same _ _ _ e
    have k1 : ((w.setCell ⟨B t, 0, none⟩ (.int .i64 (P t).1)).setCell ⟨B t, 1, none⟩ (.int .i64 (P t).2)).cell? ⟨B t, 1, none⟩ = some (.int .i64 (P t).2) :=
      World.cell?_setCell_same _ _ _ (u := u') (by rw [World.cell?_setCell_other _ _ _ _ (by intro z; injection z with z1 z2; exact absurd z2 (by decide))]; exact f)
    exact ⟨a, by simpa using b, by simpa using c, by simpa using d, ⟨_, k0⟩, ⟨_, k1⟩, fun _ => ⟨k0, k1⟩⟩
  · have ne := h.ne r t hr ht (Ne.symm q) hl hlt
    have k : ∀ o, ((w.setCell ⟨B r, 0, none⟩ (.int .i64 (P r).1)).setCell ⟨B r, 1, none⟩ (.int .i64 (P r).2)).cell? ⟨B t, o, none⟩ = w.cell? ⟨B t, o, none⟩ := fun o => by
      rw [World.cell?_setCell_other _ _ _ _ (by intro z; injection z with z1 z2; exact ne z1), World.cell?_setCell_other _ _ _ _ (by intro z; injection z with z1 z2; exact ne z1)]
    refine ⟨a, by simpa using b, by simpa using c, by simpa using d, ⟨u, (k 0).trans e⟩, ⟨u', (k 1).trans f⟩, fun hs => ?_⟩
    rw [List.getElem?_set_ne (Ne.symm (hst t ht q))] at hs
    obtain ⟨g1, g2⟩ := g hs
    exact ⟨(k 0).trans g1, (k 1).trans g2⟩
theorem Boxes.start (hS : S w) (hsz : base ≤ w.heap.size) (n : Nat) : Boxes base S m al st P (List.replicate n false) B w := by
  have no : ∀ i : Nat, (List.replicate n false)[i]? ≠ some true := fun i => by rw [List.getElem?_replicate]; split <;> simp
  exact ⟨hS, hsz, fun t _ hl => absurd hl (no _), fun t t' _ _ _ a _ => absurd a (no _)⟩
end boxes
theorem KeepsFrom.of_below {B : Nat} {w w' : World} (h : Below w.heap.size w w') : KeepsFrom B w w' :=
  ⟨h.size, fun k o _ hk _ => (h.block k (Array.getElem?_eq_some_iff.1 hk).1).trans hk⟩
end Go.Proofs.Ytgdhgncdpmalcaa.Drawn
namespace Go.Proofs.Ytgdhgncdpmalcaa.Pure
open Go.RowKit Go.Proofs.Ytgdhgncdpmalcaa.Q Go.Proofs.YtgdhgncdpmalcaaW.PrintWords Go.Proofs.YtgdhgncdpmalcaaW.PrintLast Go.Proofs.YtgdhgncdpmalcaaW.PrintMore

abbrev Pt := S32
theorem pw64 {x : Int} (h0 : -9223372036854775808 ≤ x) (h1 : x ≤ 9223372036854775807) : wrap64 x = x := by unfold wrap64; omega
section
variable {α : Type} (pre suf : List α) (y : α)
theorem len_midP : (pre.length : Int) < ((pre ++ y :: suf).length : Int) := by simp; omega
theorem app_midP : pre ++ y :: suf = (pre ++ [y]) ++ suf := by simp
theorem next_midP (h : pre.length < 4611686018427387904) : wrap64 ((pre.length : Int) + 1) = ((pre ++ [y]).length : Int) := by
  unfold wrap64; simp; omega
end
theorem rd_midP (pre suf : List Pt) (y : Pt) : rd_T32 (pre ++ y :: suf) (pre.length : Int) = y := by simp [rd_T32]

/-- A point in range. -/
def ptB (p : Pt) : Bool := decide ((-10000 ≤ p.f0 ∧ p.f0 ≤ 10000) ∧ -10000 ≤ p.f1 ∧ p.f1 ≤ 10000)
theorem ptB_iff {p : Pt} : ptB p = true ↔ (-10000 ≤ p.f0 ∧ p.f0 ≤ 10000) ∧ -10000 ≤ p.f1 ∧ p.f1 ≤ 10000 := by unfold ptB; rw [decide_eq_true_eq]
/-- Valid corners. -/
def cvB (l : List Pt) : Bool := decide (3 ≤ l.length ∧ l.length ≤ 12) && l.all ptB
theorem cvB_iff {l : List Pt} : cvB l = true ↔ (3 ≤ l.length ∧ l.length ≤ 12) ∧ ∀ p ∈ l, ptB p = true := by
  unfold cvB; rw [Bool.and_eq_true, decide_eq_true_eq, List.all_eq_true]
theorem pwithin_eq (a m : Int) (h0 : 0 ≤ m) (h1 : m ≤ 9223372036854775807) : impl_within.f a m = some (decide (-m ≤ a ∧ a ≤ m)) := by
  unfold impl_within.f
  rw [pw64 (by omega) (by omega)]
  by_cases h : -m ≤ a
  · rw [if_pos h]; congr 1; rw [decide_eq_decide]; omega
  · rw [if_neg h]; congr 1; symm; rw [decide_eq_false_iff_not]; omega
theorem impl_PtValid_eq (p : Pt) : impl_PointValid.f p.f0 p.f1 = some (ptB p) := by
  simp only [impl_PointValid.f, impl_pairOf.f, impl_pair_inRange.f, pwithin_eq _ 10000 (by omega) (by omega), Option.bind_some]
  unfold ptB
  by_cases h : -10000 ≤ p.f0 ∧ p.f0 ≤ 10000
  · rw [if_pos (by simpa using h)]; simp only [Option.bind_some]; congr 1; rw [decide_eq_decide]; exact ⟨fun q => ⟨h, q⟩, fun q => q.2⟩
  · rw [if_neg (by simpa using h)]; simp only [Option.bind_some]; congr 1; symm; rw [decide_eq_false_iff_not]; exact fun q => h q.1
theorem cornersValid_l0 (suf : List Pt) : ∀ (pre : List Pt) (k : Nat), suf.length < k → pre.length + suf.length < 4611686018427387904 →
    impl_cornersValid.l0 k (pre ++ suf) ((pre ++ suf).length : Int) (pre.length : Int) = some (suf.all ptB) := by
  induction suf with
  | nil =>
    intro pre k hk _
    obtain ⟨k, rfl⟩ : ∃ m, k = m + 1 := ⟨k - 1, by omega⟩
    simp [impl_cornersValid.l0]
  | cons y suf ih =>
    intro pre k hk hl
    simp only [List.length_cons] at hk hl
    obtain ⟨k, rfl⟩ : ∃ m, k = m + 1 := ⟨k - 1, by omega⟩
    rw [impl_cornersValid.l0, if_pos (len_midP _ _ _), if_pos (by omega), if_pos (len_midP _ _ _), rd_midP, impl_PtValid_eq]
    simp only [Option.bind_some, List.all_cons]
    by_cases h : ptB y = true
    · rw [if_pos h, next_midP pre y (by omega), app_midP pre suf y, ih (pre ++ [y]) k (by omega) (by simp; omega), h, Bool.true_and]
    · rw [if_neg h, Bool.eq_false_iff.2 h, Bool.false_and]
theorem cornersValid_eq (k : Nat) (l : List Pt) (hk : 20 < k) : impl_cornersValid.f k l = some (cvB l) := by
  obtain ⟨k, rfl⟩ : ∃ m, k = m + 1 := ⟨k - 1, by omega⟩
  unfold impl_cornersValid.f cvB
  by_cases h1 : (l.length : Int) < 3
  · rw [if_pos h1, decide_eq_false (by omega)]; simp [impl_cornersValid.j0]
  · rw [if_neg h1]
    simp only [impl_cornersValid.j0]
    by_cases h2 : (l.length : Int) > 12
    · rw [if_pos (by simpa using h2), decide_eq_false (by omega)]; simp
    · rw [if_neg (by simpa using h2), decide_eq_true (by omega), Bool.true_and]
      have := cornersValid_l0 l [] k (by omega) (by simp; omega)
      simpa using this
end Go.Proofs.Ytgdhgncdpmalcaa.Pure
namespace Go.Proofs.Ytgdhgncdpmalcaa.Ring
open Go.RowKit Go.Shelf Go.Proofs.Ytgdhgncdpmalcaa.Q Go.Proofs.Ytgdhgncdpmalcaa.Drawn Go.Proofs.YtgdhgncdpmalcaaW.PrintWords Go.Proofs.YtgdhgncdpmalcaaW.PrintLast Go.Proofs.YtgdhgncdpmalcaaW.PrintMore
set_option linter.unusedVariables false
set_option linter.unusedSimpArgs false
attribute [local go_sem] Oper.semAt_some

theorem cvB_len {l : List Pt} (h : Pure.cvB l = true) : 3 ≤ l.length ∧ l.length ≤ 12 := (Pure.cvB_iff.1 h).1
/-- A linked list of corners of l, as a value of an outline. -/
def LinkedV (w : World) (l : List Pt) (bs : Nat → Nat) (w' : World) : Prop := Ring w' w'.heap.size bs l ∧ (∀ j, j < l.length → w.heap.size ≤ bs j) ∧ Below w.heap.size w w'
def NoRing (w : World) (e : Ending) (w' : World) : Prop := e = .returned (.tuple #[.agg #[.pointer none, .int .i64 0], .bool false]) ∧ Below w.heap.size w w'
def IsRing (w : World) (l : List Pt) (e : Ending) (w' : World) : Prop := ∃ bs, e = .returned (.tuple #[.agg #[.pointer (some ⟨bs 0, 0, none⟩), .int .i64 l.length], .bool true]) ∧ LinkedV w l bs w'
theorem outline_is (A0 : Option Addr) (c0 : Nat) (l0 : List Pt) (w : World) (hr0 : Kd.C k32 w A0 l0.length l0) (hc0 : l0.length ≤ c0) (h : Pure.cvB l0 = true) :
    Calls Try.prog 43 #[.slice A0 l0.length c0] w (IsRing w l0) :=
  (outline_yes 21 A0 c0 l0 w hr0 hc0 ((Pure.cornersValid_eq 21 l0 (by decide)).trans (by rw [h])) (cvB_len h).1 (cvB_len h).2).mono fun e w' ⟨bs, he, hr, hl, hb⟩ => ⟨bs, he, hr, hl, hb⟩
theorem outline_isnt (A0 : Option Addr) (c0 : Nat) (l0 : List Pt) (w : World) (hr0 : Kd.C k32 w A0 l0.length l0) (hc0 : l0.length ≤ c0) (h : Pure.cvB l0 = false) :
    Calls Try.prog 43 #[.slice A0 l0.length c0] w (NoRing w) :=
  outline_no 21 A0 c0 l0 w hr0 hc0 ((Pure.cornersValid_eq 21 l0 (by decide)).trans (by rw [h]))
theorem at_new {w w1 : World} {cs : Array Value} {T : TypeId} (hb : Below (w.heap.size + 1) (w.alloc (.cells cs T)) w1) (o : Nat) : w1.cell? ⟨w.heap.size, o, none⟩ = cs[o]? ∧ w1.frozen? ⟨w.heap.size, o, none⟩ = (w.alloc (.cells cs T)).frozen? ⟨w.heap.size, o, none⟩ :=
  ⟨(hb.cell (p := ⟨w.heap.size, o, none⟩) (by dsimp only; omega)).trans (World.cell?_alloc_at _ _ _ _ rfl), hb.frozen (p := ⟨w.heap.size, o, none⟩) (by dsimp only; omega)⟩

end Go.Proofs.Ytgdhgncdpmalcaa.Ring
namespace Go.Proofs.Ytgdhgncdpmalcaa.Ring
open Go.RowKit Go.Shelf Go.Proofs.Ytgdhgncdpmalcaa.Q Go.Proofs.Ytgdhgncdpmalcaa.Drawn Go.Proofs.YtgdhgncdpmalcaaW.PrintWords Go.Proofs.YtgdhgncdpmalcaaW.PrintLast Go.Proofs.YtgdhgncdpmalcaaW.PrintMore
set_option linter.unusedVariables false
set_option linter.unusedSimpArgs false
attribute [local go_sem] Oper.semAt_some
def crossP (p q : Pt) : Int := wrap64 (wrap64 (p.f0 * q.f1) - wrap64 (q.f0 * p.f1))

def areaS (l : List Pt) : Nat → Int
  | 0 => 0
  | j + 1 => wrap64 (areaS l j + crossP (at_ l j) (nxt l j))
set_option maxRecDepth 100000 in
set_option maxHeartbeats 4000000 in
theorem area_calls (top : Nat) (bs : Nat → Nat) (l : List Pt) (w : World) (hR : Ring w top bs l) (htop : top ≤ w.heap.size) :
    Calls Try.prog 44 #[.agg #[.pointer (some ⟨bs 0, 0, none⟩), .int .i64 l.length]] w fun e w' => e = .returned (.int .i64 (areaS l l.length)) ∧ Below w.heap.size w w' := by
  refine (callsIn_wide (n := 0)).1 (callsIn_of_wp_marks Try.func44 rfl trivial ?_ rfl)
  simp only [Try.ntmps44, List.size_toArray, List.length_cons, List.length_nil, Nat.reduceAdd, Nat.reduceSub, Array.replicate_succ, Array.replicate_zero, List.push_toArray, List.append_toArray, List.nil_append, List.cons_append]
  have HR := Aside0.mk hR
  clear hR
  gi_wp2
  have hs : ((w.alloc (.cells #[.pointer (some ⟨bs 0, 0, none⟩), .int .i64 l.length] 54)).alloc (.cells #[.int .i64 0] 3)).heap.size = w.heap.size + 2 := by simp
  obtain ⟨W0, hW0⟩ : ∃ W0, (w.alloc (.cells #[.pointer (some ⟨bs 0, 0, none⟩), .int .i64 l.length] 54)).alloc (.cells #[.int .i64 0] 3) = W0 := ⟨_, rfl⟩
  have hc0 : W0.cell? ⟨w.heap.size + 1, 0, none⟩ = some (.int .i64 0) := by rw [← hW0]; simp [go_sem]
  have hf0 : W0.frozen? ⟨w.heap.size + 1, 0, none⟩ = false := by rw [← hW0]; simp [go_sem]
  have hb0 : Below w.heap.size w W0 := by rw [← hW0]; exact ((Below.refl _ w).alloc (Nat.le_refl _) _).alloc (by simp) _
  rw [hW0] at hs ⊢
  clear hW0
  refine range_ring w.heap.size bs l ((HR.out.mono htop).below hb0) (by omega) rfl
    (fun j W => (W.cell? ⟨w.heap.size + 1, 0, none⟩ = some (.int .i64 (areaS l j)) ∧ W.frozen? ⟨w.heap.size + 1, 0, none⟩ = false) ∧ Below w.heap.size w W)
    (fun _ _ => False)
    (OwnFrom.and (Own.from (fun s A B row hs hg hr => ⟨cell_kept hs.1 hg hr, (frozen_kept hs.1 hg hr).trans hs.2⟩) _) (ownFrom_below (Nat.le_refl _) (by omega)))
    (fun _ _ _ _ h _ _ => h.elim) ⟨⟨hc0, hf0⟩, hb0⟩ ?a1 ?assign ?body ?done ?stop
  case assign =>
    intro r k W K hK
    gi_wp2
    exact hK
  case done =>
    rintro D W hD ⟨⟨hc, hf⟩, hb⟩ hK
    gi_wp2
    refine ⟨by simp, .inl ⟨_, _, rfl, run_takeDeferred hK, ?_⟩⟩
    exact ⟨_, results_tmp rfl _ _ _, rfl, hb.trans (belowK_b (w := W0) (by omega) _ _ _ _ hD hK rfl rfl)⟩
  case stop =>
    rintro D c W hD h
    exact h.elim
  case body =>
    rintro r k W hk ⟨⟨hc, hf⟩, hb⟩ hbt
    have hRW := (HR.out.mono htop).below hb
    have hkp := hRW.pos
    have hrx := Aside0.mk (fun w' (h : Below w.heap.size W w') => (hRW.below h).x k hk)
    have hry := Aside0.mk (fun w' (h : Below w.heap.size W w') => (hRW.below h).y k hk)
    have hrn := Aside0.mk (fun w' (h : Below w.heap.size W w') => (hRW.below h).next k hk)
    have hnk : (k + 1) % l.length < l.length := Nat.mod_lt _ (by omega)
    have hnx := Aside0.mk (fun w' (h : Below w.heap.size W w') => (show w'.cell? ⟨bs ((k + 1) % l.length), 0, none⟩ = some (.int .i64 (nxt l k).f0) from (hRW.below h).x _ hnk))
    have hny := Aside0.mk (fun w' (h : Below w.heap.size W w') => (show w'.cell? ⟨bs ((k + 1) % l.length), 1, none⟩ = some (.int .i64 (nxt l k).f1) from (hRW.below h).y _ hnk))
    clear hRW
    gi_wp2
    have HF := wide_round Try.prog r
    obtain ⟨VS, hVS⟩ : ∃ VS : List (Option Tmp × Value), [(some 8, .int .i64 (areaS l k)), (some 9, .pointer (some ⟨bs k, 0, none⟩)), (some 10, .pointer (some ⟨bs k, 0, none⟩)), (some 11, .pointer (some ⟨bs k, 0, none⟩)), (some 12, .agg #[.int .i64 (at_ l k).f0, .int .i64 (at_ l k).f1]), (some 13, .agg #[.int .i64 (at_ l k).f0, .int .i64 (at_ l k).f1]), (some 14, .pointer (some ⟨bs k, 0, none⟩)), (some 15, .pointer (some ⟨bs k, 0, none⟩)), (some 16, .pointer (some ⟨bs k, 2, none⟩)), (some 17, .pointer (some ⟨bs ((k + 1) % l.length), 0, none⟩)), (some 18, .pointer (some ⟨bs ((k + 1) % l.length), 0, none⟩)), (some 19, .pointer (some ⟨bs ((k + 1) % l.length), 0, none⟩)), (some 20, .agg #[.int .i64 (nxt l k).f0, .int .i64 (nxt l k).f1]), (some 21, .agg #[.int .i64 (nxt l k).f0, .int .i64 (nxt l k).f1]), (some 22, .int .i64 (crossP (at_ l k) (nxt l k))), (some 23, .int .i64 (wrap64 (areaS l k + crossP (at_ l k) (nxt l k)))), (none, undef)] = VS := ⟨_, rfl⟩
    have HN : (VS.filterMap (·.1)).Nodup := by rw [← hVS]; exact (show List.Nodup [(8 : Tmp), (9 : Tmp), (10 : Tmp), (11 : Tmp), (12 : Tmp), (13 : Tmp), (14 : Tmp), (15 : Tmp), (16 : Tmp), (17 : Tmp), (18 : Tmp), (19 : Tmp), (20 : Tmp), (21 : Tmp), (22 : Tmp), (23 : Tmp)] by decide)
    refine act_name fun A0 hA0 => ?_
    have E3 : ∀ L : List Bool, (fill VS L A0).tmps[3]?.getD undef = .pointer (some ⟨w.heap.size + 1, 0, none⟩) := fun L => fill_old _ _ _ (by rw [← hVS]; exact (show (3 : Tmp) ∉ [(8 : Tmp), (9 : Tmp), (10 : Tmp), (11 : Tmp), (12 : Tmp), (13 : Tmp), (14 : Tmp), (15 : Tmp), (16 : Tmp), (17 : Tmp), (18 : Tmp), (19 : Tmp), (20 : Tmp), (21 : Tmp), (22 : Tmp), (23 : Tmp)] by decide)) (by rw [← hA0]; rfl)
    have E4 : ∀ L : List Bool, (fill VS L A0).tmps[4]?.getD undef = .pointer (some ⟨bs k, 0, none⟩) := fun L => fill_old _ _ _ (by rw [← hVS]; exact (show (4 : Tmp) ∉ [(8 : Tmp), (9 : Tmp), (10 : Tmp), (11 : Tmp), (12 : Tmp), (13 : Tmp), (14 : Tmp), (15 : Tmp), (16 : Tmp), (17 : Tmp), (18 : Tmp), (19 : Tmp), (20 : Tmp), (21 : Tmp), (22 : Tmp), (23 : Tmp)] by decide)) (by rw [← hA0]; rfl)
    have hT_ : 23 < A0.tmps.size := by rw [← hA0]; simp
    refine drawn_last (by kernel_rfl) (early_spec (by kernel_rfl)) 16 rfl (waits_spec (by kernel_rfl)) VS (by rw [← hVS]; rfl) HN (fun w' => (w'.cell? ⟨w.heap.size + 1, 0, none⟩ = some (.int .i64 (areaS l k)) ∧ w'.frozen? ⟨w.heap.size + 1, 0, none⟩ = false) ∧ Below w.heap.size W w' ∧ KeepsFrom W0.heap.size W w' ∧ w.heap.size + 2 ≤ w'.heap.size) (fun w' => (w'.cell? ⟨w.heap.size + 1, 0, none⟩ = some (.int .i64 (areaS l (k + 1))) ∧ w'.frozen? ⟨w.heap.size + 1, 0, none⟩ = false) ∧ Below w.heap.size W w' ∧ KeepsFrom W0.heap.size W w' ∧ w.heap.size + 2 ≤ w'.heap.size) (⟨⟨hc, hf⟩, (Below.refl _ _).drew, (KeepsOthers.drew _).from _, by have := hbt.size; simp; omega⟩) ?_ ?_ ?_
    · intro i o v L w' hi ho hv hpre hS K hK
      have hii : i = 0 ∨ i = 1 ∨ i = 2 ∨ i = 3 ∨ i = 4 ∨ i = 5 ∨ i = 6 ∨ i = 7 ∨ i = 8 ∨ i = 9 ∨ i = 10 ∨ i = 11 ∨ i = 12 ∨ i = 13 ∨ i = 14 ∨ i = 15 := by omega
      rcases hii with rfl | rfl | rfl | rfl | rfl | rfl | rfl | rfl | rfl | rfl | rfl | rfl | rfl | rfl | rfl | rfl
      · obtain rfl := Option.some.inj ho
        obtain rfl := vs_at hVS hv rfl
        have e3 := E3 L
        have c1 := hS.1.1
        refine st_val HF rfl (by simp) rfl (w' := w') ?_ (hK w' hS)
        generalize fill VS L A0 = A at e3 ⊢
        simp [execOp, go_sem, i64_w, e3, c1]
      · obtain rfl := Option.some.inj ho
        obtain rfl := vs_at hVS hv rfl
        have e4 := E4 L
        refine st_val HF rfl (by simp) rfl (w' := w') ?_ (hK w' hS)
        generalize fill VS L A0 = A at e4 ⊢
        simp [execOp, go_sem, i64_w, e4]
      · obtain rfl := Option.some.inj ho
        obtain rfl := vs_at hVS hv rfl
        have e9 := fill_get HN hVS hT_ (t := 9) (j := 1) rfl rfl (hpre ⟨1, .data⟩ (by simp) rfl)
        refine st_val HF rfl (by simp) rfl (w' := w') ?_ (hK w' hS)
        generalize fill VS L A0 = A at e9 ⊢
        simp [execOp, go_sem, i64_w, e9]
      · obtain rfl := Option.some.inj ho
        obtain rfl := vs_at hVS hv rfl
        have e10 := fill_get HN hVS hT_ (t := 10) (j := 2) rfl rfl (hpre ⟨2, .data⟩ (by simp) rfl)
        refine st_val HF rfl (by simp) rfl (w' := w') ?_ (hK w' hS)
        generalize fill VS L A0 = A at e10 ⊢
        simp [execOp, go_sem, i64_w, e10]
      · obtain rfl := Option.some.inj ho
        obtain rfl := vs_at hVS hv rfl
        have e11 := fill_get HN hVS hT_ (t := 11) (j := 3) rfl rfl (hpre ⟨3, .data⟩ (by simp) rfl)
        have c1 := hrx.out w' hS.2.1
        have c2 := hry.out w' hS.2.1
        refine st_val HF rfl (by simp) rfl (w' := w') ?_ (hK w' hS)
        generalize fill VS L A0 = A at e11 ⊢
        simp [execOp, go_sem, i64_w, e11, c1, c2]
      · obtain rfl := Option.some.inj ho
        obtain rfl := vs_at hVS hv rfl
        have e12 := fill_get HN hVS hT_ (t := 12) (j := 4) rfl rfl (hpre ⟨4, .data⟩ (by simp) rfl)
        refine st_call HF rfl (by simp) rfl (w := w') (f := 53) (args := #[.agg #[.int .i64 (at_ l k).f0, .int .i64 (at_ l k).f1]]) (v := .agg #[.int .i64 (at_ l k).f0, .int .i64 (at_ l k).f1]) ?_ ?_
        · generalize fill VS L A0 = A at e12 ⊢
          simp [execOp, resolve, go_sem, e12]
        · refine (impl_pairOf.calls _ _ (at_ l k).f0 (at_ l k).f1 w' rfl).mono ?_; rintro e w2 ⟨rfl, hb2⟩; exact ⟨rfl, hK w2 ⟨⟨(hb2.cell (p := ⟨w.heap.size + 1, 0, none⟩) qq64).trans hS.1.1, (hb2.frozen (p := ⟨w.heap.size + 1, 0, none⟩) qq64).trans hS.1.2⟩, hS.2.1.trans (hb2.mono (by have := hS.2.2.2; omega)), hS.2.2.1.trans (KeepsFrom.of_below hb2), Nat.le_trans hS.2.2.2 hb2.size⟩⟩
      · obtain rfl := Option.some.inj ho
        obtain rfl := vs_at hVS hv rfl
        have e4 := E4 L
        refine st_val HF rfl (by simp) rfl (w' := w') ?_ (hK w' hS)
        generalize fill VS L A0 = A at e4 ⊢
        simp [execOp, go_sem, i64_w, e4]
      · obtain rfl := Option.some.inj ho
        obtain rfl := vs_at hVS hv rfl
        have e14 := fill_get HN hVS hT_ (t := 14) (j := 6) rfl rfl (hpre ⟨6, .data⟩ (by simp) rfl)
        refine st_val HF rfl (by simp) rfl (w' := w') ?_ (hK w' hS)
        generalize fill VS L A0 = A at e14 ⊢
        simp [execOp, go_sem, i64_w, e14]
      · obtain rfl := Option.some.inj ho
        obtain rfl := vs_at hVS hv rfl
        have e15 := fill_get HN hVS hT_ (t := 15) (j := 7) rfl rfl (hpre ⟨7, .data⟩ (by simp) rfl)
        refine st_val HF rfl (by simp) rfl (w' := w') ?_ (hK w' hS)
        generalize fill VS L A0 = A at e15 ⊢
        simp [execOp, go_sem, i64_w, e15]
      · obtain rfl := Option.some.inj ho
        obtain rfl := vs_at hVS hv rfl
        have e16 := fill_get HN hVS hT_ (t := 16) (j := 8) rfl rfl (hpre ⟨8, .data⟩ (by simp) rfl)
        have c1 := hrn.out w' hS.2.1
        refine st_val HF rfl (by simp) rfl (w' := w') ?_ (hK w' hS)
        generalize fill VS L A0 = A at e16 ⊢
        simp [execOp, go_sem, i64_w, e16, c1]
      · obtain rfl := Option.some.inj ho
        obtain rfl := vs_at hVS hv rfl
        have e17 := fill_get HN hVS hT_ (t := 17) (j := 9) rfl rfl (hpre ⟨9, .data⟩ (by simp) rfl)
        refine st_val HF rfl (by simp) rfl (w' := w') ?_ (hK w' hS)
        generalize fill VS L A0 = A at e17 ⊢
        simp [execOp, go_sem, i64_w, e17]
      · obtain rfl := Option.some.inj ho
        obtain rfl := vs_at hVS hv rfl
        have e18 := fill_get HN hVS hT_ (t := 18) (j := 10) rfl rfl (hpre ⟨10, .data⟩ (by simp) rfl)
        refine st_val HF rfl (by simp) rfl (w' := w') ?_ (hK w' hS)
        generalize fill VS L A0 = A at e18 ⊢
        simp [execOp, go_sem, i64_w, e18]
      · obtain rfl := Option.some.inj ho
        obtain rfl := vs_at hVS hv rfl
        have e19 := fill_get HN hVS hT_ (t := 19) (j := 11) rfl rfl (hpre ⟨11, .data⟩ (by simp) rfl)
        have c1 := hnx.out w' hS.2.1
        have c2 := hny.out w' hS.2.1
        refine st_val HF rfl (by simp) rfl (w' := w') ?_ (hK w' hS)
        generalize fill VS L A0 = A at e19 ⊢
        simp [execOp, go_sem, i64_w, e19, c1, c2]
      · obtain rfl := Option.some.inj ho
        obtain rfl := vs_at hVS hv rfl
        have e20 := fill_get HN hVS hT_ (t := 20) (j := 12) rfl rfl (hpre ⟨12, .data⟩ (by simp) rfl)
        refine st_call HF rfl (by simp) rfl (w := w') (f := 53) (args := #[.agg #[.int .i64 (nxt l k).f0, .int .i64 (nxt l k).f1]]) (v := .agg #[.int .i64 (nxt l k).f0, .int .i64 (nxt l k).f1]) ?_ ?_
        · generalize fill VS L A0 = A at e20 ⊢
          simp [execOp, resolve, go_sem, e20]
        · refine (impl_pairOf.calls _ _ (nxt l k).f0 (nxt l k).f1 w' rfl).mono ?_; rintro e w2 ⟨rfl, hb2⟩; exact ⟨rfl, hK w2 ⟨⟨(hb2.cell (p := ⟨w.heap.size + 1, 0, none⟩) qq64).trans hS.1.1, (hb2.frozen (p := ⟨w.heap.size + 1, 0, none⟩) qq64).trans hS.1.2⟩, hS.2.1.trans (hb2.mono (by have := hS.2.2.2; omega)), hS.2.2.1.trans (KeepsFrom.of_below hb2), Nat.le_trans hS.2.2.2 hb2.size⟩⟩
      · obtain rfl := Option.some.inj ho
        obtain rfl := vs_at hVS hv rfl
        have e13 := fill_get HN hVS hT_ (t := 13) (j := 5) rfl rfl (hpre ⟨5, .data⟩ (by simp) rfl)
        have e21 := fill_get HN hVS hT_ (t := 21) (j := 13) rfl rfl (hpre ⟨13, .data⟩ (by simp) rfl)
        refine st_call HF rfl (by simp) rfl (w := w') (f := 74) (args := #[.agg #[.int .i64 (at_ l k).f0, .int .i64 (at_ l k).f1], .agg #[.int .i64 (nxt l k).f0, .int .i64 (nxt l k).f1]]) (v := .int .i64 (crossP (at_ l k) (nxt l k))) ?_ ?_
        · generalize fill VS L A0 = A at e13 e21 ⊢
          simp [execOp, resolve, go_sem, e13, e21]
        · refine (impl_pair_cross.calls _ _ _ _ (crossP (at_ l k) (nxt l k)) w' rfl).mono ?_; rintro e w2 ⟨rfl, hb2⟩; exact ⟨rfl, hK w2 ⟨⟨(hb2.cell (p := ⟨w.heap.size + 1, 0, none⟩) qq64).trans hS.1.1, (hb2.frozen (p := ⟨w.heap.size + 1, 0, none⟩) qq64).trans hS.1.2⟩, hS.2.1.trans (hb2.mono (by have := hS.2.2.2; omega)), hS.2.2.1.trans (KeepsFrom.of_below hb2), Nat.le_trans hS.2.2.2 hb2.size⟩⟩
      · obtain rfl := Option.some.inj ho
        obtain rfl := vs_at hVS hv rfl
        have e8 := fill_get HN hVS hT_ (t := 8) (j := 0) rfl rfl (hpre ⟨0, .data⟩ (by simp) rfl)
        have e22 := fill_get HN hVS hT_ (t := 22) (j := 14) rfl rfl (hpre ⟨14, .data⟩ (by simp) rfl)
        refine st_val HF rfl (by simp) rfl (w' := w') ?_ (hK w' hS)
        generalize fill VS L A0 = A at e8 e22 ⊢
        simp [execOp, go_sem, i64_w, e8, e22]
    · intro o v L w' ho hv hall hS K hK
      obtain rfl := Option.some.inj ho
      obtain rfl := vs_at hVS hv rfl
      have e3 := E3 L
      have e23 := fill_get HN hVS hT_ (t := 23) (j := 15) rfl rfl (hall 15 (by decide))
      have c1 := hS.1.1
      have c2 := hS.1.2
      refine st_skip HF rfl (by simp) rfl (w' := w'.setCell ⟨w.heap.size + 1, 0, none⟩ (.int .i64 (areaS l (k + 1)))) ?_ (hK _ ⟨⟨World.cell?_setCell_same _ _ _ c1, by rw [World.frozen?_setCell]; exact c2⟩, hS.2.1.setCell (p := ⟨w.heap.size + 1, 0, none⟩) (by dsimp only; omega) _, hS.2.2.1.trans ((KeepsOthers.setCell _ _ _).from _), by simpa using hS.2.2.2⟩)
      generalize fill VS L A0 = A at e3 e23 ⊢
      simp [execOp, go_sem, e3, e23, c1, c2]
      rfl
    · intro w' hS'
      exact ⟨hS'.2.2.1, hS'.2.1, hS'.1, hb.trans hS'.2.1⟩

end Go.Proofs.Ytgdhgncdpmalcaa.Ring
namespace Go.Proofs.Ytgdhgncdpmalcaa.Ring
open Go.RowKit Go.Shelf Go.Proofs.Ytgdhgncdpmalcaa.Q Go.Proofs.Ytgdhgncdpmalcaa.Drawn Go.Proofs.YtgdhgncdpmalcaaW.PrintWords Go.Proofs.YtgdhgncdpmalcaaW.PrintLast Go.Proofs.YtgdhgncdpmalcaaW.PrintMore
set_option linter.unusedVariables false
set_option linter.unusedSimpArgs false
attribute [local go_sem] Oper.semAt_some
set_option maxRecDepth 100000 in
set_option maxHeartbeats 4000000 in
theorem polyArea_no (A0 : Option Addr) (c0 : Nat) (l0 : List Pt) (w : World) (hr0 : Kd.C k32 w A0 l0.length l0) (hc0 : l0.length ≤ c0) (h : Pure.cvB l0 = false) :
    Calls Try.prog 12 #[.slice A0 l0.length c0] w fun e w' => e = .returned (.tuple #[.int .i64 0, .bool false]) ∧ Below w.heap.size w w' := by
  have HR0 := Aside0.mk hr0
  have HC0 := Aside0.mk hc0
  have HX := Aside0.mk h
  clear hr0 hc0 h
  go_enter Try.func12, Try.ntmps12
  go_wp2_with (go_at_call 43; refine (outline_isnt A0 c0 l0 _ ?s1 HC0.out HX.out).mono ?_; (case s1 => exact qq57); rintro e w1 ⟨rfl, hb⟩; have HB := Aside0.mk ((Below.refl w.heap.size w).trans hb); clear hb)
  go_ret2
  exact ⟨rfl, HB.out.alloc HB.out.size _⟩

set_option maxRecDepth 100000 in
set_option maxHeartbeats 4000000 in
theorem polyArea_yes (A0 : Option Addr) (c0 : Nat) (l0 : List Pt) (w : World) (hr0 : Kd.C k32 w A0 l0.length l0) (hc0 : l0.length ≤ c0) (h : Pure.cvB l0 = true) :
    Calls Try.prog 12 #[.slice A0 l0.length c0] w fun e w' => e = .returned (.tuple #[.int .i64 (areaS l0 l0.length), .bool true]) ∧ Below w.heap.size w w' := by
  have HR0 := Aside0.mk hr0
  have HC0 := Aside0.mk hc0
  have HX := Aside0.mk h
  clear hr0 hc0 h
  go_enter Try.func12, Try.ntmps12
  go_wp2_with (first | (go_at_call 43; refine (outline_is A0 c0 l0 _ ?s1 HC0.out HX.out).mono ?_; (case s1 => exact qq57); rintro e w1 ⟨bs, rfl, hR, hlo0, hb⟩; have HR := Aside0.mk hR; have HB := Aside0.mk ((Below.refl w.heap.size w).trans hb); clear hb hR hlo0) | (go_at_call 44; refine (area_calls w1.heap.size bs l0 _ (HR.out.below ((Below.refl _ _).alloc (Nat.le_refl _) _)) (by simp)).mono ?_; rintro e w2 ⟨rfl, hb2⟩; have HB2 := Aside0.mk ((HB.out.alloc HB.out.size (.cells #[.pointer (some ⟨bs 0, 0, none⟩), .int .i64 l0.length] 54)).trans (hb2.mono (by have := HB.out.size; simp; omega))); clear hb2))
  go_ret2
  exact ⟨rfl, HB2.out⟩

end Go.Proofs.Ytgdhgncdpmalcaa.Ring
namespace Go.Proofs.Ytgdhgncdpmalcaa.Q
open Go.RowKit Go.Proofs.YtgdhgncdpmalcaaW.PrintWords Go.Proofs.YtgdhgncdpmalcaaW.PrintLast Go.Proofs.YtgdhgncdpmalcaaW.PrintMore
attribute [local go_sem] max2_int min2_int max_two min_two max_three min_three max_four min_four
set_option linter.unusedVariables false
set_option linter.unusedSimpArgs false

/-! ### impl_PolyArea: function 12 -/
def impl_PolyArea.f (l0 : List (S32)) : Option (Int × Bool) := if Go.Proofs.Ytgdhgncdpmalcaa.Pure.cvB l0 then some (Go.Proofs.Ytgdhgncdpmalcaa.Ring.areaS l0 l0.length, true) else some (0, false)
theorem impl_PolyArea.calls (A0 : Option Addr) (c0 : Nat) (l0 : List (S32)) (r1 : Int) (r2 : Bool) (w : World) (hr0 : Kd.C k32 w A0 l0.length l0) (hc0 : l0.length ≤ c0) (h : impl_PolyArea.f l0 = some (r1, r2)) :
    Calls Try.prog 12 #[.slice A0 l0.length c0] w fun e w' => e = .returned (.tuple #[.int .i64 r1, .bool r2]) ∧ Below w.heap.size w w' := by
  unfold impl_PolyArea.f at h
  by_cases c : Go.Proofs.Ytgdhgncdpmalcaa.Pure.cvB l0 = true
  · rw [if_pos c] at h
    obtain ⟨rfl, rfl⟩ := Prod.mk.inj (Option.some.inj h)
    exact Go.Proofs.Ytgdhgncdpmalcaa.Ring.polyArea_yes A0 c0 l0 w hr0 hc0 c
  · rw [if_neg c] at h
    obtain ⟨rfl, rfl⟩ := Prod.mk.inj (Option.some.inj h)
    exact Go.Proofs.Ytgdhgncdpmalcaa.Ring.polyArea_no A0 c0 l0 w hr0 hc0 (Bool.eq_false_iff.2 c)

end Go.Proofs.Ytgdhgncdpmalcaa.Q
namespace Go.Proofs.Ytgdhgncdpmalcaa.Q
open Go.RowKit Go.Proofs.YtgdhgncdpmalcaaW.PrintWords Go.Proofs.YtgdhgncdpmalcaaW.PrintLast Go.Proofs.YtgdhgncdpmalcaaW.PrintMore
attribute [local go_sem] max2_int min2_int max_two min_two max_three min_three max_four min_four
set_option linter.unusedVariables false
set_option linter.unusedSimpArgs false

/-! ### impl_PolyBack: function 14 -/
def impl_PolyBack.l0 : Nat → List (S32) → List (S32) → Int → Option ((List (S32)) × Bool)
  | 0, _, _, _ => none
  | k + 1, x0, x4, x5 => if x5 > 0 then (if 0 ≤ x5 then (if x5 < (x0.length : Int) then (if x4.length < 8796093022208 then (impl_PolyBack.l0 k x0 (x4 ++ [(⟨(rd_T32 x0 x5).f0, (rd_T32 x0 x5).f1⟩ : S32)]) (wrap64 (x5 - 1))) else (none)) else (none)) else (none)) else (some (x4, true))
def impl_PolyBack.f (k : Nat) (l0 : List (S32)) : Option ((List (S32)) × Bool) := (impl_cornersValid.f k l0).bind fun t115 => (if t115 = true then (if 0 ≤ (l0.length : Int) then (if ((l0.length : Int) : Int).toNat ≤ 17592186044416 then ((some (([] : List (S32)) : List (S32))).bind fun y119 => (if 0 < (l0.length : Int) then (if y119.length < 8796093022208 then (impl_PolyBack.l0 k l0 (y119 ++ [(⟨(rd_T32 l0 0).f0, (rd_T32 l0 0).f1⟩ : S32)]) (wrap64 ((l0.length : Int) - 1))) else (none)) else (none))) else (none)) else (none)) else (some ((([] : List (S32))), false)))
set_option maxHeartbeats 8000000 in
set_option maxRecDepth 100000 in
theorem impl_PolyBack.calls (k : Nat) (A0 : Option Addr) (c0 : Nat) (l0 : List (S32)) (r1 : List (S32)) (r2 : Bool) (w : World) (hr0 : Kd.C k32 w A0 l0.length l0) (hc0 : l0.length ≤ c0) (h : impl_PolyBack.f k l0 = some (r1, r2)) :
    Calls Try.prog 14 #[.slice A0 l0.length c0] w fun e w' => ∃ v0_ : Value, e = .returned (.tuple #[v0_, .bool r2]) ∧ Kd.R k32 32 w' w.heap.size (fun _ => True) v0_ r1 ∧ Below w.heap.size w w' := by
  have hu32 := Try.underlying32
  have HR0 := Aside0.mk hr0
  have HC0 := Aside0.mk hc0
  clear hr0 hc0
  have HB := Aside0.mk (Below.refl w.heap.size w)
  have H : ((impl_cornersValid.f k l0).bind fun t115 => (if t115 = true then (if 0 ≤ (l0.length : Int) then (if ((l0.length : Int) : Int).toNat ≤ 17592186044416 then ((some (([] : List (S32)) : List (S32))).bind fun y119 => (if 0 < (l0.length : Int) then (if y119.length < 8796093022208 then (impl_PolyBack.l0 k l0 (y119 ++ [(⟨(rd_T32 l0 0).f0, (rd_T32 l0 0).f1⟩ : S32)]) (wrap64 ((l0.length : Int) - 1))) else (none)) else (none))) else (none)) else (none)) else (some ((([] : List (S32))), false)))) = some (r1, r2) := h
  clear h
  replace H := Option.bind_eq_some_iff.mp H
  obtain ⟨t115, A20, H⟩ := H
  replace H : (if t115 = true then (if 0 ≤ (l0.length : Int) then (if ((l0.length : Int) : Int).toNat ≤ 17592186044416 then ((some (([] : List (S32)) : List (S32))).bind fun y119 => (if 0 < (l0.length : Int) then (if y119.length < 8796093022208 then (impl_PolyBack.l0 k l0 (y119 ++ [(⟨(rd_T32 l0 0).f0, (rd_T32 l0 0).f1⟩ : S32)]) (wrap64 ((l0.length : Int) - 1))) else (none)) else (none))) else (none)) else (none)) else (some ((([] : List (S32))), false))) = some (r1, r2) := H
  have A2 := Aside0.mk A20
  clear A20
  by_cases c3 : t115 = true
  · subst c3
    have H1 : (if 0 ≤ (l0.length : Int) then (if ((l0.length : Int) : Int).toNat ≤ 17592186044416 then ((some (([] : List (S32)) : List (S32))).bind fun y119 => (if 0 < (l0.length : Int) then (if y119.length < 8796093022208 then (impl_PolyBack.l0 k l0 (y119 ++ [(⟨(rd_T32 l0 0).f0, (rd_T32 l0 0).f1⟩ : S32)]) (wrap64 ((l0.length : Int) - 1))) else (none)) else (none))) else (none)) else (none)) = some (r1, r2) := by rw [if_pos rfl] at H; exact H
    clear H
    have H := H1
    clear H1
    by_cases c4 : 0 ≤ (l0.length : Int)
    · rw [if_pos c4] at H
      have c4b0 := eq_true c4
      have c4b1 : decide (0 ≤ (l0.length : Int)) = true := decide_eq_true c4
      clear c4
      by_cases c5 : ((l0.length : Int) : Int).toNat ≤ 17592186044416
      · rw [if_pos c5] at H
        have c5b0 := eq_true c5
        have c5b1 : decide (((l0.length : Int) : Int).toNat ≤ 17592186044416) = true := decide_eq_true c5
        clear c5
        obtain ⟨y119, hy119⟩ : ∃ y_ : List (S32), y_ = (([] : List (S32))) := ⟨_, rfl⟩
        replace H : (if 0 < (l0.length : Int) then (if y119.length < 8796093022208 then (impl_PolyBack.l0 k l0 (y119 ++ [(⟨(rd_T32 l0 0).f0, (rd_T32 l0 0).f1⟩ : S32)]) (wrap64 ((l0.length : Int) - 1))) else (none)) else (none)) = some (r1, r2) := by first | (rw [hy119]; with_reducible exact H) | (have H2_ := (Option.bind_some _ _).symm.trans H; rw [hy119]; with_reducible exact H2_) | (have H2_ := (Option.bind_some _ _).symm.trans H; with_reducible exact H2_) | with_reducible exact H | (rw [hy119]; exact H) | exact H
        have Ny119 := Aside0.mk hy119
        clear hy119
        by_cases c6 : 0 < (l0.length : Int)
        · rw [if_pos c6] at H
          have c6b0 : decide (0 < (l0.length : Int)) = true := decide_eq_true c6
          have c6b1 : decide (0 < l0.length) = true := decide_eq_true (by omega)
          clear c6
          by_cases c7 : y119.length < 8796093022208
          · rw [if_pos c7] at H
            have LMc7 := Aside0.mk c7
            clear c7
            obtain ⟨y123, hy123⟩ : ∃ y_ : List (S32), y_ = (y119 ++ [(⟨(rd_T32 l0 0).f0, (rd_T32 l0 0).f1⟩ : S32)]) := ⟨_, rfl⟩
            replace H : (impl_PolyBack.l0 k l0 y123 (wrap64 ((l0.length : Int) - 1))) = some (r1, r2) := by first | (rw [hy123]; with_reducible exact H) | (have H2_ := (Option.bind_some _ _).symm.trans H; rw [hy123]; with_reducible exact H2_) | (have H2_ := (Option.bind_some _ _).symm.trans H; with_reducible exact H2_) | with_reducible exact H | (rw [hy123]; exact H) | exact H
            have Ny123 := Aside0.mk hy123
            clear hy123
            have H' := Aside0.mk H
            clear H
            go_enter Try.func14, Try.ntmps14
            go_wp2_with (first | ((with_reducible refine gate_callee (f := 47) rfl ?_); refine goesL_ (some 7) rfl rfl Try.func47 (by kernel_rfl) rfl #[.slice A0 l0.length c0] rfl qq2 ?_; (with_reducible refine (impl_cornersValid.calls k _ _ l0 true _ ?side1 ?side2 A2.out).mono ?_); (case side1 => exact qq45); (case side2 => exact HC0.out); rintro e w8 ⟨rfl, hb⟩; refine ⟨_, rfl, ?_⟩; have n0_ := Aside0.mk (below_step qq1 hb); clear HB; have HB := n0_; clear n0_; (try clear hb); (try clear hb2); (try clear hk); (try clear hi)) | ((with_reducible refine gate_dst (N := 12) rfl ?_); refine Kd.R_make0 k32 _ 32 rfl (N := 12) rfl 23 _ _ rfl (l0.length : Int) rfl rfl Try.underlying23 (.agg #[(.int .i64 0), (.int .i64 0)]) 16 info32 rfl (by decide) (by omega) z32 (ok := fun _ => True) (okp := fun _ => True) (k32_mkM _ _ _ z32 ) (fun _ hk => hk) trivial (of_decide_eq_true qq18) (Nat.le_trans (Nat.mul_le_mul_right _ (of_decide_eq_true qq18 : (l0.length : Int).toNat ≤ 17592186044416)) (by omega)) (Below.refl _ _) (Nat.le_refl _) ?_; intro v120 w9 ho10 hb hg_ hnew_; clear hg_ hnew_; (first | rw [← Ny119.out] at ho10 | (simp only [Int.reduceToNat] at ho10; rw [← Ny119.out] at ho10)); have n0_ := Aside0.mk (Kd.R_lower ho10 (below_size qq1)); have n1_ := Aside0.mk (below_step qq1 hb); clear HB; have HO121 := n0_; have HB := n1_; clear n0_ n1_; clear hb ho10; have p122 : 0 ≤ (0 : Int) := (by omega); have q122 : 0 < (l0.length : Int) := of_decide_eq_true qq18; obtain ⟨ad122, e122, hx122_0, hx122_1⟩ := at_T32 HR0.out 0 p122 q122; cases e122; have qi122 : (0 < l0.length) = True := eq_true (by omega); (try rw [show ((0 : Int)).toNat = 0 from rfl] at hx122_0); (try rw [show 0 * 2 = 0 from rfl] at hx122_0); (try rw [Addr.add_zero'] at hx122_0); (try rw [show ((0 : Int)).toNat = 0 from rfl] at hx122_1); (try rw [show 0 * 2 = 0 from rfl] at hx122_1); (try rw [Addr.add_zero'] at hx122_1); replace hx122_0 := (HB.out.cell (World.block_lt_of_cell? w _ hx122_0)).trans hx122_0; replace hx122_1 := (HB.out.cell (World.block_lt_of_cell? w _ hx122_1)).trans hx122_1; replace p122 := eq_true p122; replace q122 := eq_true q122) | ((with_reducible refine gate_builtin (b := .append) (xs := #[.tmp 13, .tmp 17]) rfl ?_); at_builtin; refine Kd.R_append k32 (w0 := w) w.heap.size rfl (.tmp 13) (.tmp 17) 23 32 (.agg #[(.int .i64 0), (.int .i64 0)]) 16 rfl Try.underlying23 info32 rfl (by decide) (by omega) v120 y119 (⟨(rd_T32 l0 0).f0, (rd_T32 l0 0).f1⟩ : S32) [.int .i64 ((rd_T32 l0 0).f0), .int .i64 ((rd_T32 l0 0).f1)] (fun _ => True) (fun _ => False) rfl rfl ?aP (fun _ hk => hk.elim) ?aF ?aO ?aB ?aS ?aL ?_; (case aP => exact k32_mkM _ _ _ (⟨(rd_T32 l0 0).f0, (rd_T32 l0 0).f1⟩ : S32)); (case aB => exact qq1); (case aF => exact qq81); (case aO => exact (qq4 HO121.out)); (case aS => exact (below_size qq1)); (case aL => have := LMc7.out; omega); intro v124 w11 ho hb hg hat; rw [← Ny123.out] at ho; have n0_ := Aside0.mk (hb); have n1_ := Aside0.mk (ho); clear HB; clear HO121; have HB := n0_; have HO125 := n1_; clear n0_ n1_; clear ho hb hg hat))
            go_loopg [4, 5] k (fun kq v4 v5 w' => ∃ (x4_1 : List (S32)) (x5_1 : Int), v5 = .int .i64 x5_1 ∧ Aside0 (impl_PolyBack.l0 kq l0 x4_1 x5_1 = some (r1, r2)) ∧ Aside0 (kq ≤ k) ∧ Aside0 (Kd.R k32 32 w' w.heap.size (fun _ => True) v4 x4_1) ∧ Aside0 (Below w.heap.size w w'))
            case atStart => exact ⟨(y123), (wrap64 ((l0.length : Int) - 1)), qq23, H', ⟨Nat.le_refl _⟩, ⟨qq4 HO125.out⟩, ⟨qq1⟩⟩
            case round =>
              clear H'
              try clear c1
              try clear p1
              try clear q1
              try clear hx1
              try clear qi1
              try clear p2
              try clear c3
              try clear c4
              try clear c4b0
              try clear c4b1
              try clear c5
              try clear c5b0
              try clear c5b1
              try clear c6
              try clear c6b0
              try clear c6b1
              try clear p6
              try clear c7
              try clear hx122_0
              try clear hx122_1
              try clear p122
              try clear q122
              obtain ⟨x4_1, x5_1, rfl, HA, HK1, HO_4, HB⟩ := hrel
              cases gk with
              | zero => exact absurd HA.out (by simp [impl_PolyBack.l0])
              | succ k1 =>
                have H := HA.out
                clear HA
                simp only [impl_PolyBack.l0] at H
                by_cases c12 : x5_1 > 0
                · rw [if_pos c12] at H
                  have c12b0 : decide (0 < x5_1) = true := decide_eq_true c12
                  clear c12
                  by_cases c13 : 0 ≤ x5_1
                  · rw [if_pos c13] at H
                    have c13b0 : decide (0 ≤ x5_1) = true := decide_eq_true c13
                    clear c13
                    by_cases c14 : x5_1 < (l0.length : Int)
                    · rw [if_pos c14] at H
                      have c14b0 : decide (x5_1 < (l0.length : Int)) = true := decide_eq_true c14
                      clear c14
                      by_cases c15 : x4_1.length < 8796093022208
                      · rw [if_pos c15] at H
                        have LMc15 := Aside0.mk c15
                        clear c15
                        obtain ⟨y127, hy127⟩ : ∃ y_ : List (S32), y_ = (x4_1 ++ [(⟨(rd_T32 l0 x5_1).f0, (rd_T32 l0 x5_1).f1⟩ : S32)]) := ⟨_, rfl⟩
                        replace H : (impl_PolyBack.l0 k1 l0 y127 (wrap64 (x5_1 - 1))) = some (r1, r2) := by first | (rw [hy127]; with_reducible exact H) | (have H2_ := (Option.bind_some _ _).symm.trans H; rw [hy127]; with_reducible exact H2_) | (have H2_ := (Option.bind_some _ _).symm.trans H; with_reducible exact H2_) | with_reducible exact H | (rw [hy127]; exact H) | exact H
                        have Ny127 := Aside0.mk hy127
                        clear hy127
                        have H' := Aside0.mk H
                        clear H
                        have p126 : 0 ≤ (x5_1 : Int) := of_decide_eq_true qq18
                        have q126 : x5_1 < (l0.length : Int) := of_decide_eq_true qq18
                        obtain ⟨ad126, e126, hx126_0, hx126_1⟩ := at_T32 HR0.out x5_1 p126 q126
                        obtain rfl : ad122 = ad126 := (by injection e126)
                        replace hx126_0 := (HB.out.cell (World.block_lt_of_cell? w _ hx126_0)).trans hx126_0
                        replace hx126_1 := (HB.out.cell (World.block_lt_of_cell? w _ hx126_1)).trans hx126_1
                        replace p126 := eq_true p126
                        replace q126 := eq_true q126
                        go_wp2_with (first | ((with_reducible refine gate_builtin (b := .append) (xs := #[.tmp 26, .tmp 31]) rfl ?_); at_builtin; refine Kd.R_append k32 (w0 := w) w.heap.size rfl (.tmp 26) (.tmp 31) 23 32 (.agg #[(.int .i64 0), (.int .i64 0)]) 16 rfl Try.underlying23 info32 rfl (by decide) (by omega) u4 x4_1 (⟨(rd_T32 l0 x5_1).f0, (rd_T32 l0 x5_1).f1⟩ : S32) [.int .i64 ((rd_T32 l0 x5_1).f0), .int .i64 ((rd_T32 l0 x5_1).f1)] (fun _ => True) (fun _ => False) rfl rfl ?aP (fun _ hk => hk.elim) ?aF ?aO ?aB ?aS ?aL ?_; (case aP => exact k32_mkM _ _ _ (⟨(rd_T32 l0 x5_1).f0, (rd_T32 l0 x5_1).f1⟩ : S32)); (case aB => exact qq1); (case aF => exact qq81); (case aO => exact (qq4 HO_4.out)); (case aS => exact (below_size qq1)); (case aL => have := LMc15.out; omega); intro v128 w16 ho hb hg hat; rw [← Ny127.out] at ho; have n0_ := Aside0.mk (hb); have n1_ := Aside0.mk (ho); clear HB; clear HO_4; have HB := n0_; have HO129 := n1_; clear n0_ n1_; clear ho hb hg hat))
                        go_roundg k1
                        case measure => have := HK1.out; omega
                        case rel => exact ⟨(y127), (wrap64 (x5_1 - 1)), qq23, H', ⟨by have := HK1.out; omega⟩, ⟨qq4 HO129.out⟩, ⟨qq1⟩⟩
                      · rw [if_neg c15] at H
                        exact absurd H (by simp)
                    · rw [if_neg c14] at H
                      exact absurd H (by simp)
                  · rw [if_neg c13] at H
                    exact absurd H (by simp)
                · rw [if_neg c12] at H
                  have c12b0 : decide (0 < x5_1) = false := decide_eq_false c12
                  clear c12
                  simp only [Option.some.injEq, Prod.mk.injEq] at H
                  obtain ⟨rfl, rfl⟩ := H
                  go_wp2
                  go_ret2
                  exact ⟨_, qq11, qq4 HO_4.out, qq1⟩
          · rw [if_neg c7] at H
            exact absurd H (by simp)
        · rw [if_neg c6] at H
          exact absurd H (by simp)
      · rw [if_neg c5] at H
        exact absurd H (by simp)
    · rw [if_neg c4] at H
      exact absurd H (by simp)
  · replace c3 := Bool.eq_false_iff.mpr c3
    subst c3
    have H1 : (some ((([] : List (S32))), false)) = some (r1, r2) := by rw [if_neg (show ¬ (false = true) by decide)] at H; exact H
    clear H
    have H := H1
    clear H1
    obtain ⟨y116, hy116⟩ : ∃ y_ : List (S32), y_ = (([] : List (S32))) := ⟨_, rfl⟩
    replace H : (some (y116, false)) = some (r1, r2) := by first | (rw [hy116]; with_reducible exact H) | (have H2_ := (Option.bind_some _ _).symm.trans H; rw [hy116]; with_reducible exact H2_) | (have H2_ := (Option.bind_some _ _).symm.trans H; with_reducible exact H2_) | with_reducible exact H | (rw [hy116]; exact H) | exact H
    have Ny116 := Aside0.mk hy116
    clear hy116
    simp only [Option.some.injEq, Prod.mk.injEq] at H
    obtain ⟨rfl, rfl⟩ := H
    go_enter Try.func14, Try.ntmps14
    go_wp2_with (first | ((with_reducible refine gate_callee (f := 47) rfl ?_); refine goesL_ (some 7) rfl rfl Try.func47 (by kernel_rfl) rfl #[.slice A0 l0.length c0] rfl qq2 ?_; (with_reducible refine (impl_cornersValid.calls k _ _ l0 false _ ?side1 ?side2 A2.out).mono ?_); (case side1 => exact qq45); (case side2 => exact HC0.out); rintro e w17 ⟨rfl, hb⟩; refine ⟨_, rfl, ?_⟩; have n0_ := Aside0.mk (below_step qq1 hb); clear HB; have HB := n0_; clear n0_; (try clear hb); (try clear hb2); (try clear hk); (try clear hi)) | ((with_reducible refine gate_dst (N := 9) rfl ?_); refine Kd.R_lit k32 _ 32 ?hg (N := 9) ?hd (xs := ([] : List (S32))) (inner := []) (ok := fun _ => True) (okp := fun _ => True) ?hr ?hp (fun _ hk => hk) trivial (Below.refl _ _) (Nat.le_refl _) (by simp) ?_; (case hd => rfl); (case hg => rfl); (case hr => exact qq21); (case hp => exact (Reps.none _ _)); intro v117 w18 ho19 hb hg_ hnew_; clear hg_ hnew_; (first | rw [← Ny116.out] at ho19 | (simp only [Int.reduceToNat] at ho19; rw [← Ny116.out] at ho19)); have n0_ := Aside0.mk (Kd.R_lower ho19 (below_size qq1)); have n1_ := Aside0.mk (below_step qq1 hb); clear HB; have HO118 := n0_; have HB := n1_; clear n0_ n1_; clear hb ho19))
    go_ret2
    exact ⟨_, qq11, qq4 HO118.out, qq1⟩

end Go.Proofs.Ytgdhgncdpmalcaa.Q
namespace Go.Proofs.Ytgdhgncdpmalcaa.Q
open Go.RowKit Go.Proofs.YtgdhgncdpmalcaaW.PrintWords Go.Proofs.YtgdhgncdpmalcaaW.PrintLast Go.Proofs.YtgdhgncdpmalcaaW.PrintMore
attribute [local go_sem] max2_int min2_int max_two min_two max_three min_three max_four min_four
set_option linter.unusedVariables false
set_option linter.unusedSimpArgs false

/-! ### laws_turned: function 16 -/
def laws_turned.l0 : Nat → List (S32) → List (S32) → Int → Option ((List (S32)))
  | 0, _, _, _ => none
  | k + 1, x0, x3, x4 => if x4 < (x0.length : Int) then (if 0 ≤ x4 then (if x3.length < 8796093022208 then (laws_turned.l0 k x0 (x3 ++ [(⟨wrap64 (-((rd_T32 x0 x4).f1)), (rd_T32 x0 x4).f0⟩ : S32)]) (wrap64 (x4 + 1))) else (none)) else (none)) else (some x3)
def laws_turned.f (k : Nat) (l0 : List (S32)) : Option ((List (S32))) := laws_turned.l0 k l0 (([] : List (S32))) 0
def laws_turned.T5 : Bool × List (List Nat × List Nat) := (true, [([], []), ([], []), ([], []), ([1, 2], [1, 2]), ([3], [3]), ([4], [4]), ([5], [5]), ([], []), ([], []), ([7, 8], [7, 8]), ([9], [9]), ([10], [10]), ([6, 11], [6, 11]), ([12], [12]), ([0, 13], [0, 13]), ([14, 14, 0, 1, 2, 3, 4, 5, 6, 7, 8, 9, 10, 11, 12, 13, 14], [0, 14])])
def laws_turned.B5 : List Nat := [0, 0, 0, 6, 14, 30, 62, 0, 0, 384, 896, 1920, 4094, 8190, 16383, 32767]
theorem laws_turned.tab5 : rtab .any (opsOf Try.f16 5) = laws_turned.T5 := by kernel_rfl
theorem laws_turned.bits5 : waitsOk laws_turned.T5.2 laws_turned.B5 = true := by kernel_rfl
set_option maxHeartbeats 8000000 in
set_option maxRecDepth 100000 in
theorem laws_turned.calls (k : Nat) (A0 : Option Addr) (c0 : Nat) (l0 : List (S32)) (r : List (S32)) (w : World) (hr0 : Kd.C k32 w A0 l0.length l0) (hc0 : l0.length ≤ c0) (h : laws_turned.f k l0 = some r) :
    Calls Try.prog 16 #[.slice A0 l0.length c0] w fun e w' => ∃ v0_ : Value, e = .returned (v0_) ∧ Kd.R k32 32 w' w.heap.size (fun _ => True) v0_ r ∧ Below w.heap.size w w' := by
  have hu32 := Try.underlying32
  have HR0 := Aside0.mk hr0
  have HC0 := Aside0.mk hc0
  clear hr0 hc0
  have HB := Aside0.mk (Below.refl w.heap.size w)
  have H : (laws_turned.l0 k l0 (([] : List (S32))) 0) = some r := h
  clear h
  obtain ⟨y147, hy147⟩ : ∃ y_ : List (S32), y_ = (([] : List (S32))) := ⟨_, rfl⟩
  replace H : (laws_turned.l0 k l0 y147 0) = some r := by first | (rw [hy147]; with_reducible exact H) | (have H2_ := (Option.bind_some _ _).symm.trans H; rw [hy147]; with_reducible exact H2_) | (have H2_ := (Option.bind_some _ _).symm.trans H; with_reducible exact H2_) | with_reducible exact H | (rw [hy147]; exact H) | exact H
  have Ny147 := Aside0.mk hy147
  clear hy147
  have H' := Aside0.mk H
  clear H
  go_enter Try.func16, Try.ntmps16
  go_wp2_with (first | ((with_reducible refine gate_dst (N := 5) rfl ?_); refine Kd.R_lit k32 _ 32 ?hg (N := 5) ?hd (xs := ([] : List (S32))) (inner := []) (ok := fun _ => True) (okp := fun _ => True) ?hr ?hp (fun _ hk => hk) trivial (Below.refl _ _) (Nat.le_refl _) (by simp) ?_; (case hd => rfl); (case hg => rfl); (case hr => exact qq21); (case hp => exact (Reps.none _ _)); intro v148 w2 ho3 hb hg_ hnew_; clear hg_ hnew_; (first | rw [← Ny147.out] at ho3 | (simp only [Int.reduceToNat] at ho3; rw [← Ny147.out] at ho3)); have n0_ := Aside0.mk (Kd.R_lower ho3 (below_size qq1)); have n1_ := Aside0.mk (below_step qq1 hb); clear HB; have HO149 := n0_; have HB := n1_; clear n0_ n1_; clear hb ho3))
  go_loopg [3, 4] k (fun kq v3 v4 w' => ∃ (x3_1 : List (S32)) (x4_1 : Int), v4 = .int .i64 x4_1 ∧ Aside0 (laws_turned.l0 kq l0 x3_1 x4_1 = some r) ∧ Aside0 (kq ≤ k) ∧ Aside0 (Kd.R k32 32 w' w.heap.size (fun _ => True) v3 x3_1) ∧ Aside0 (Below w.heap.size w w'))
  case atStart => exact ⟨(y147), (0), qq23, H', ⟨Nat.le_refl _⟩, ⟨qq4 HO149.out⟩, ⟨qq1⟩⟩
  case round =>
    clear H'
    try clear c1
    try clear p2
    obtain ⟨x3_1, x4_1, rfl, HA, HK1, HO_3, HB⟩ := hrel
    cases gk with
    | zero => exact absurd HA.out (by simp [laws_turned.l0])
    | succ k1 =>
      have H := HA.out
      clear HA
      simp only [laws_turned.l0] at H
      by_cases c4 : x4_1 < (l0.length : Int)
      · rw [if_pos c4] at H
        have c4b0 : decide (x4_1 < (l0.length : Int)) = true := decide_eq_true c4
        clear c4
        by_cases c5 : 0 ≤ x4_1
        · rw [if_pos c5] at H
          have c5b0 : decide (0 ≤ x4_1) = true := decide_eq_true c5
          clear c5
          by_cases c6 : x3_1.length < 8796093022208
          · rw [if_pos c6] at H
            have LMc6 := Aside0.mk c6
            clear c6
            obtain ⟨y152, hy152⟩ : ∃ y_ : List (S32), y_ = (x3_1 ++ [(⟨wrap64 (-((rd_T32 l0 x4_1).f1)), (rd_T32 l0 x4_1).f0⟩ : S32)]) := ⟨_, rfl⟩
            replace H : (laws_turned.l0 k1 l0 y152 (wrap64 (x4_1 + 1))) = some r := by first | (rw [hy152]; with_reducible exact H) | (have H2_ := (Option.bind_some _ _).symm.trans H; rw [hy152]; with_reducible exact H2_) | (have H2_ := (Option.bind_some _ _).symm.trans H; with_reducible exact H2_) | with_reducible exact H | (rw [hy152]; exact H) | exact H
            have Ny152 := Aside0.mk hy152
            clear hy152
            have H' := Aside0.mk H
            clear H
            try go_wp2
            have n0_ := Aside0.mk (Kd.R_drew HO_3.out)
            have n1_ := Aside0.mk (below_drew1 HB.out)
            clear HO_3
            clear HB
            have HO_3 := n0_
            have HB := n1_
            clear n0_ n1_
            have p150 : 0 ≤ (x4_1 : Int) := of_decide_eq_true qq18
            have q150 : x4_1 < (l0.length : Int) := of_decide_eq_true qq18
            obtain ⟨ad150, e150, hx150_0, hx150_1⟩ := at_T32 HR0.out x4_1 p150 q150
            have hw150_1 := hx150_1
            have hw150_0 := hx150_0
            cases e150
            replace hx150_0 := (HB.out.cell (World.block_lt_of_cell? w _ hx150_0)).trans hx150_0
            replace hx150_1 := (HB.out.cell (World.block_lt_of_cell? w _ hx150_1)).trans hx150_1
            replace p150 := eq_true p150
            replace q150 := eq_true q150
            have p151 : 0 ≤ (x4_1 : Int) := of_decide_eq_true qq18
            have q151 : x4_1 < (l0.length : Int) := of_decide_eq_true qq18
            obtain ⟨ad151, e151, hx151_0, hx151_1⟩ := at_T32 HR0.out x4_1 p151 q151
            have hw151_1 := hx151_1
            have hw151_0 := hx151_0
            obtain rfl : ad150 = ad151 := (by injection e151)
            replace hx151_0 := (HB.out.cell (World.block_lt_of_cell? w _ hx151_0)).trans hx151_0
            replace hx151_1 := (HB.out.cell (World.block_lt_of_cell? w _ hx151_1)).trans hx151_1
            replace p151 := eq_true p151
            replace q151 := eq_true q151
            refine start_ (n := 16) (S := fun w' => w'.cell? (ad150.add ((x4_1).toNat * 2)) = some (.int .i64 ((rd_T32 l0 x4_1).f0)) ∧ w'.cell? ⟨(ad150.add ((x4_1).toNat * 2)).block, (ad150.add ((x4_1).toNat * 2)).off + 1, none⟩ = some (.int .i64 ((rd_T32 l0 x4_1).f1)) ∧ w'.cell? (ad150.add ((x4_1).toNat * 2)) = some (.int .i64 ((rd_T32 l0 x4_1).f0)) ∧ w'.cell? ⟨(ad150.add ((x4_1).toNat * 2)).block, (ad150.add ((x4_1).toNat * 2)).off + 1, none⟩ = some (.int .i64 ((rd_T32 l0 x4_1).f1))) (ds := []) #[false, false, false, false, false, false, false, false, false, false, false, false, false, false, false, false] (by kernel_rfl) rfl rfl ⟨((HB.out.cell (World.block_lt_of_cell? w _ hw150_0)).trans hw150_0), ((HB.out.cell (World.block_lt_of_cell? w _ hw150_1)).trans hw150_1), ((HB.out.cell (World.block_lt_of_cell? w _ hw151_0)).trans hw151_0), ((HB.out.cell (World.block_lt_of_cell? w _ hw151_1)).trans hw151_1)⟩ (fun hHeld => ?_); refine with_tabW laws_turned.tab5 laws_turned.bits5 (fun HT_ HW_ => ?_)
            generalize wr.drew = w7 at HO_3 HB hx150_0 hx150_1 hx151_0 hx151_1 hHeld ⊢
            refine pure_ (i := 0) (N := some 12) #[true, false, false, false, false, false, false, false, false, false, false, false, false, false, false, false] rfl rfl (any_of HT_.out (by kernel_rfl)) (fun _ _ _ h => h) (Or.inl ⟨by rfl, pA_⟩) pB_ ?_
            refine pure_ (i := 1) (N := some 13) #[true, true, false, false, false, false, false, false, false, false, false, false, false, false, false, false] rfl rfl (any_of HT_.out (by kernel_rfl)) (fun _ _ _ h => h) (Or.inl ⟨by rfl, pA_⟩) pB_ ?_
            refine pure_ (i := 2) (N := some 14) #[true, true, true, false, false, false, false, false, false, false, false, false, false, false, false, false] rfl rfl (any_of HT_.out (by kernel_rfl)) (fun _ _ _ h => h) (Or.inl ⟨by rfl, pA_⟩) pB_ ?_
            refine pure_ (i := 3) (N := some 15) #[true, true, true, true, false, false, false, false, false, false, false, false, false, false, false, false] rfl rfl (any_of HT_.out (by kernel_rfl)) (fun _ _ _ h => h) (Or.inl ⟨by rfl, pA_⟩) pB_ ?_
            refine pure_ (i := 4) (N := some 16) #[true, true, true, true, true, false, false, false, false, false, false, false, false, false, false, false] rfl rfl (any_of HT_.out (by kernel_rfl)) (fun _ _ _ h => h) (Or.inl ⟨by rfl, pA_⟩) pB_ ?_
            refine pure_ (i := 7) (N := some 19) #[true, true, true, true, true, false, false, true, false, false, false, false, false, false, false, false] rfl rfl (any_of HT_.out (by kernel_rfl)) (fun _ _ _ h => h) (Or.inl ⟨by rfl, pA_⟩) pB_ ?_
            refine pure_ (i := 8) (N := some 20) #[true, true, true, true, true, false, false, true, true, false, false, false, false, false, false, false] rfl rfl (any_of HT_.out (by kernel_rfl)) (fun _ _ _ h => h) (Or.inl ⟨by rfl, pA_⟩) pB_ ?_
            refine pure_ (i := 9) (N := some 21) #[true, true, true, true, true, false, false, true, true, true, false, false, false, false, false, false] rfl rfl (any_of HT_.out (by kernel_rfl)) (fun _ _ _ h => h) (Or.inl ⟨by rfl, pA_⟩) pB_ ?_
            refine pure_ (i := 10) (N := some 22) #[true, true, true, true, true, false, false, true, true, true, true, false, false, false, false, false] rfl rfl (any_of HT_.out (by kernel_rfl)) (fun _ _ _ h => h) (Or.inl ⟨by rfl, pA_⟩) pB_ ?_
            refine take_ (i := 5) (N := some 17) (v := ?_) (a' := ?_) #[true, true, true, true, true, true, false, true, true, true, true, false, false, false, false, false] rfl rfl (take_ofW HT_.out HW_.out (by kernel_rfl)) (fun _ _ _ h => h) (Or.inl ⟨by rfl, ?_⟩) hHeld ?_ ?_
            rotate_left
            · rintro w' ⟨s0, s1, s2, s3⟩
              go_simp
              with_reducible rfl
            rotate_left
            · simp only [Act.put, List.setIfInBounds_toArray, List.set_cons_zero, List.set_cons_succ, i64_w, i32_w]
              rfl
            refine pure_ (i := 6) (N := some 18) #[true, true, true, true, true, true, true, true, true, true, true, false, false, false, false, false] rfl rfl (any_of HT_.out (by kernel_rfl)) (fun _ _ _ h => h) (Or.inl ⟨by rfl, pA_⟩) pB_ ?_
            refine take_ (i := 11) (N := some 23) (v := ?_) (a' := ?_) #[true, true, true, true, true, true, true, true, true, true, true, true, false, false, false, false] rfl rfl (take_ofW HT_.out HW_.out (by kernel_rfl)) (fun _ _ _ h => h) (Or.inl ⟨by rfl, ?_⟩) hHeld ?_ ?_
            rotate_left
            · rintro w' ⟨s0, s1, s2, s3⟩
              go_simp
              with_reducible rfl
            rotate_left
            · simp only [Act.put, List.setIfInBounds_toArray, List.set_cons_zero, List.set_cons_succ, i64_w, i32_w]
              rfl
            refine pure_ (i := 12) (N := some 24) #[true, true, true, true, true, true, true, true, true, true, true, true, true, false, false, false] rfl rfl (any_of HT_.out (by kernel_rfl)) (fun _ _ _ h => h) (Or.inl ⟨by rfl, pA_⟩) pB_ ?_
            refine one_ (i := 13) (N := some 25) #[true, true, true, true, true, true, true, true, true, true, true, true, true, true, false, false] rfl rfl (one_of HT_.out (by kernel_rfl)) (by decide) (fun K hK => ?_)
            refine value_ (w1 := ?_) (v := ?_) (by rfl) rfl ?_ ?_
            rotate_left 2
            · go_simp
              constructor
              · rfl
              · rfl
            refine hK.out _ _ ⟨(World.cell?_alloc_lt _ _ _ (World.block_lt_of_cell? _ _ (((HB.out.cell (World.block_lt_of_cell? w _ hw150_0)).trans hw150_0)))).trans (((HB.out.cell (World.block_lt_of_cell? w _ hw150_0)).trans hw150_0)), (World.cell?_alloc_lt _ _ _ (World.block_lt_of_cell? _ _ (((HB.out.cell (World.block_lt_of_cell? w _ hw150_1)).trans hw150_1)))).trans (((HB.out.cell (World.block_lt_of_cell? w _ hw150_1)).trans hw150_1)), (World.cell?_alloc_lt _ _ _ (World.block_lt_of_cell? _ _ (((HB.out.cell (World.block_lt_of_cell? w _ hw151_0)).trans hw151_0)))).trans (((HB.out.cell (World.block_lt_of_cell? w _ hw151_0)).trans hw151_0)), (World.cell?_alloc_lt _ _ _ (World.block_lt_of_cell? _ _ (((HB.out.cell (World.block_lt_of_cell? w _ hw151_1)).trans hw151_1)))).trans (((HB.out.cell (World.block_lt_of_cell? w _ hw151_1)).trans hw151_1))⟩ (fun hHeld => ?_)
            clear hK K
            refine norm_ (a' := ?_) ?_ ?_
            rotate_left
            · show Act.put _ (some 25) _ = _
              simp only [Act.put, List.setIfInBounds_toArray, List.set_cons_zero, List.set_cons_succ, i64_w, i32_w]
              rfl
            refine one_ (i := 14) (N := some 26) #[true, true, true, true, true, true, true, true, true, true, true, true, true, true, true, false] rfl rfl (one_of HT_.out (by kernel_rfl)) (by decide) (fun K hK => ?_)
            refine Kd.R_append_step k32 (w0 := w) w.heap.size (by rfl) (.tmp 12) (.tmp 25) 23 32 (.agg #[(.int .i64 0), (.int .i64 0)]) 16 rfl Try.underlying23 info32 rfl (by decide) (by omega) u3 x3_1 (⟨wrap64 (-((rd_T32 l0 x4_1).f1)), (rd_T32 l0 x4_1).f0⟩ : S32) [.int .i64 (wrap64 (-((rd_T32 l0 x4_1).f1))), .int .i64 ((rd_T32 l0 x4_1).f0)] (fun _ => True) (fun _ => False) rfl rfl ?aP (fun _ hk => hk.elim) ?aF ?aO ?aB ?aS ?aL ?_
            (case aP => exact k32_mkM _ _ _ (⟨wrap64 (-((rd_T32 l0 x4_1).f1)), (rd_T32 l0 x4_1).f0⟩ : S32))
            (case aB => exact qq1)
            (case aF => exact qq81)
            (case aO => exact (qq4 HO_3.out))
            (case aS => exact (below_size qq1))
            (case aL => have := LMc6.out; omega)
            intro v153 w8 ho hb hg hat
            rw [← Ny152.out] at ho
            have n0_ := Aside0.mk (hb)
            have n1_ := Aside0.mk (ho)
            clear HB
            clear HO_3
            have HB := n0_
            have HO154 := n1_
            clear n0_ n1_
            clear ho hb hg hat
            refine hK.out _ _ ⟨((HB.out.cell (World.block_lt_of_cell? w _ hw150_0)).trans hw150_0), ((HB.out.cell (World.block_lt_of_cell? w _ hw150_1)).trans hw150_1), ((HB.out.cell (World.block_lt_of_cell? w _ hw151_0)).trans hw151_0), ((HB.out.cell (World.block_lt_of_cell? w _ hw151_1)).trans hw151_1)⟩ (fun hHeld => ?_)
            clear hK K
            refine norm_ (a' := ?_) ?_ ?_
            rotate_left
            · show Act.put _ (some 26) _ = _
              simp only [Act.put, List.setIfInBounds_toArray, List.set_cons_zero, List.set_cons_succ, i64_w, i32_w]
              rfl
            refine pure_ (i := 15) (N := some 3) #[true, true, true, true, true, true, true, true, true, true, true, true, true, true, true, true] rfl rfl (any_of HT_.out (by kernel_rfl)) (fun _ _ _ h => h) (Or.inl ⟨by rfl, pA_⟩) pB_ ?_
            refine done_ (done_of HT_.out (by kernel_rfl)) ?_
            try go_wp2
            go_roundg k1
            case measure => have := HK1.out; omega
            case rel => exact ⟨(y152), (wrap64 (x4_1 + 1)), qq23, H', ⟨by have := HK1.out; omega⟩, ⟨qq4 HO154.out⟩, ⟨qq1⟩⟩
          · rw [if_neg c6] at H
            exact absurd H (by simp)
        · rw [if_neg c5] at H
          exact absurd H (by simp)
      · rw [if_neg c4] at H
        have c4b0 : decide (x4_1 < (l0.length : Int)) = false := decide_eq_false c4
        clear c4
        obtain rfl := Option.some.inj H
        go_wp2
        go_ret
        exact ⟨_, qq11, qq4 HO_3.out, qq1⟩

end Go.Proofs.Ytgdhgncdpmalcaa.Q
namespace Go.Proofs.Ytgdhgncdpmalcaa.Q
open Go.RowKit Go.Proofs.YtgdhgncdpmalcaaW.PrintWords Go.Proofs.YtgdhgncdpmalcaaW.PrintLast Go.Proofs.YtgdhgncdpmalcaaW.PrintMore
attribute [local go_sem] max2_int min2_int max_two min_two max_three min_three max_four min_four
set_option linter.unusedVariables false
set_option linter.unusedSimpArgs false

/-- A state of type 81 at block g of W; what its slices lead to came in by w0. -/
def IsS81 (w0 W : World) (g : Nat) (f0 : List Int) (f1 : Int) : Prop := ∃ A0 c0, W.heap[g]? = some (.cells #[.slice A0 f0.length c0, .int .i64 f1] 81 (0, 0)) ∧ w0.heap.size ≤ g ∧ Kd.C (Kd.int .u8) w0 A0 f0.length f0
theorem IsS81.grown {w0 W : World} {g : Nat} {f0 : List Int} {f1 : Int} {W1 : World} {row : Option Nat} (h : IsS81 w0 W g f0 f1) (hw : W.grownBy W1 row) (hne : some g ≠ row) : IsS81 w0 W1 g f0 f1 := by
  obtain ⟨A0, c0, hb, hg, hr0⟩ := h
  exact ⟨A0, c0, blk_grown hb hw hne, hg, hr0⟩
theorem IsS81.below {w0 W : World} {g : Nat} {f0 : List Int} {f1 : Int} {W1 : World} (h : IsS81 w0 W g f0 f1) (hw : Below W.heap.size W W1) : IsS81 w0 W1 g f0 f1 := h.grown (grown_of_below hw none) (by simp)
theorem IsS81.alloc {w0 W : World} {g : Nat} {f0 : List Int} {f1 : Int} (h : IsS81 w0 W g f0 f1) (o : Obj) : IsS81 w0 (W.alloc o) g f0 f1 := h.below (below_alloc (Below.refl _ _) o)
theorem IsS81.drewN {w0 W : World} {g : Nat} {f0 : List Int} {f1 : Int} (h : IsS81 w0 W g f0 f1) (m : Nat) : IsS81 w0 (W.drewN m) g f0 f1 := h
theorem IsS81.drew {w0 W : World} {g : Nat} {f0 : List Int} {f1 : Int} (h : IsS81 w0 W g f0 f1) : IsS81 w0 W.drew g f0 f1 := h
theorem IsS81.apart {w0 W : World} {g : Nat} {f0 : List Int} {f1 : Int} {α : Type} {d : Kd α} {e : Nat} {base : Nat} {ok : Nat → Prop} {v : Value} {xs : List α} (h : IsS81 w0 W g f0 f1) (ho : d.R e W base ok v xs) (ht : ∀ q, q ∈ e :: d.E → q ≠ 81) : d.R e W base (fun k => ok k ∧ k ≠ g) v xs := by
  obtain ⟨A0, c0, hb, hg, hr0⟩ := h
  exact Kd.R_types ho hb ht
theorem IsS81.own_ne {w0 W : World} {g : Nat} {f0 : List Int} {f1 : Int} {α : Type} {d : Kd α} {e : Nat} {base : Nat} {ok : Nat → Prop} {v : Value} {xs : List α} (h : IsS81 w0 W g f0 f1) (ho : d.R e W base ok v xs) (ht : e ≠ 81) : some g ≠ v.ownBlock := by
  obtain ⟨A0, c0, hb, hg, hr0⟩ := h
  exact Kd.R_ne ho hb ht
theorem IsS81.apartQ {w0 W : World} {g : Nat} {f0 : List Int} {f1 : Int} {α : Type} {d : Kd α} {e : Nat} {base : Nat} {ok : Nat → Prop} {v : Value} {xs : List α} (h : IsS81 w0 W g f0 f1) (ho : d.Q e W base ok v xs) (ht : ∀ q, q ∈ e :: d.E → q ≠ 81) : d.Q e W base (fun k => ok k ∧ k ≠ g) v xs := by
  obtain ⟨A0, c0, hb, hg, hr0⟩ := h
  exact Kd.Q_types ho hb ht
theorem IsS81.own_neQ {w0 W : World} {g : Nat} {f0 : List Int} {f1 : Int} {α : Type} {d : Kd α} {e : Nat} {base : Nat} {ok : Nat → Prop} {v : Value} {xs : List α} (h : IsS81 w0 W g f0 f1) (ho : d.Q e W base ok v xs) (ht : e ≠ 81) : some g ≠ v.ownBlock := by
  obtain ⟨A0, c0, hb, hg, hr0⟩ := h
  exact Kd.Q_ne ho hb ht
theorem IsS81.lt {w0 W : World} {g : Nat} {f0 : List Int} {f1 : Int} (h : IsS81 w0 W g f0 f1) : g < W.heap.size := by
  obtain ⟨A0, c0, hb, hg, hr0⟩ := h
  exact blk_lt hb
theorem IsS81.ge {w0 W : World} {g : Nat} {f0 : List Int} {f1 : Int} (h : IsS81 w0 W g f0 f1) : w0.heap.size ≤ g := by
  obtain ⟨A0, c0, hb, hg, hr0⟩ := h
  exact hg
theorem IsS81.far {w0 W : World} {g : Nat} {f0 : List Int} {f1 : Int} {p : Addr} (h : IsS81 w0 W g f0 f1) (hne : g ≠ p.block) (u : Value) : IsS81 w0 (W.setCell p u) g f0 f1 := by
  obtain ⟨A0, c0, hb, hg, hr0⟩ := h
  exact ⟨A0, c0, blk_far hb hne u, hg, hr0⟩
theorem cellS81_0 {W : World} {g : Nat} {A0 : Option Addr} {c0 : Nat} {f0 : List Int} {f1 : Int} (h : W.heap[g]? = some (.cells #[.slice A0 f0.length c0, .int .i64 f1] 81 (0, 0))) : W.cell? ⟨g, 0, none⟩ = some (.slice A0 f0.length c0) := (blk_cell h 0).trans rfl
theorem cellS81_1 {W : World} {g : Nat} {A0 : Option Addr} {c0 : Nat} {f0 : List Int} {f1 : Int} (h : W.heap[g]? = some (.cells #[.slice A0 f0.length c0, .int .i64 f1] 81 (0, 0))) : W.cell? ⟨g, 1, none⟩ = some (.int .i64 f1) := (blk_cell h 1).trans rfl
theorem IsS81.set_1 {w0 W : World} {g : Nat} {f0 : List Int} {f1 : Int} (h : IsS81 w0 W g f0 f1) (x : Int) : IsS81 w0 (W.setCell ⟨g, 1, none⟩ (.int .i64 x)) g f0 x := by
  obtain ⟨A0, c0, hb, hg, hr0⟩ := h
  exact ⟨A0, c0, by simpa using blk_set hb 1 (.int .i64 x), hg, hr0⟩
/-! ### spec_l6Rd_pick: function 48 -/
def spec_l6Rd_pick.j0 : Nat → Int → Bool → List Int → Int → Option (Int × Int)
  | 0, _, _, _, _ => none
  | k + 1, x1, x24, x1000, x1001 => if x24 = true then (some (0, x1001)) else (if (wrap64 (x1001 - 1)) < (x1000.length : Int) then (if 0 ≤ (wrap64 (x1001 - 1)) then (if x1 = 0 then (none) else (some (Int.tmod (wrap64 (rd x1000 (wrap64 (x1001 - 1)))) x1, x1001))) else (none)) else (if (x1000.length : Int) = 0 then (none) else (if 0 ≤ (Int.tmod (wrap64 (x1001 - 1)) (x1000.length : Int)) then (if (Int.tmod (wrap64 (x1001 - 1)) (x1000.length : Int)) < (x1000.length : Int) then (if 0 ≤ (Int.tmod (wrap64 ((wrap64 ((wrap64 (x1001 - 1)) * 7)) + 3)) (x1000.length : Int)) then (if (Int.tmod (wrap64 ((wrap64 ((wrap64 (x1001 - 1)) * 7)) + 3)) (x1000.length : Int)) < (x1000.length : Int) then (if x1 = 0 then (none) else (some (Int.tmod (Go.bits .xor .i64 (wrap64 ((wrap64 ((wrap64 ((wrap64 ((wrap64 (rd x1000 (Int.tmod (wrap64 (x1001 - 1)) (x1000.length : Int)))) * 131)) + (wrap64 ((wrap64 (rd x1000 (Int.tmod (wrap64 ((wrap64 ((wrap64 (x1001 - 1)) * 7)) + 3)) (x1000.length : Int)))) * 1117)))) + (wrap64 ((wrap64 (x1001 - 1)) * 29)))) + (wrap64 ((wrap64 (Int.tdiv (wrap64 (x1001 - 1)) (x1000.length : Int))) * 53)))) (wrap64 (Int.tdiv (wrap64 ((wrap64 ((wrap64 ((wrap64 ((wrap64 (rd x1000 (Int.tmod (wrap64 (x1001 - 1)) (x1000.length : Int)))) * 131)) + (wrap64 ((wrap64 (rd x1000 (Int.tmod (wrap64 ((wrap64 ((wrap64 (x1001 - 1)) * 7)) + 3)) (x1000.length : Int)))) * 1117)))) + (wrap64 ((wrap64 (x1001 - 1)) * 29)))) + (wrap64 ((wrap64 (Int.tdiv (wrap64 (x1001 - 1)) (x1000.length : Int))) * 53)))) 64))) x1, x1001))) else (none)) else (none)) else (none)) else (none))))
def spec_l6Rd_pick.f (k : Nat) (s0_0 : List Int) (s0_1 : Int) (a1 : Int) : Option (Int × Int) := if a1 < 1 then (spec_l6Rd_pick.j0 k a1 true s0_0 (wrap64 (s0_1 + 1))) else (spec_l6Rd_pick.j0 k a1 ((s0_0.length : Int) == 0) s0_0 (wrap64 (s0_1 + 1)))
set_option maxHeartbeats 8000000 in
set_option maxRecDepth 100000 in
theorem spec_l6Rd_pick.calls (k : Nat) (g : Nat) (s0_0 : List Int) (s0_1 : Int) (a1 : Int) (r1 : Int) (r2 : Int) (w0 w : World) (hI : IsS81 w0 w g s0_0 s0_1) (hB : Below w0.heap.size w0 w) (h : spec_l6Rd_pick.f k s0_0 s0_1 a1 = some (r1, r2)) :
    Calls Try.prog 48 #[.pointer (some ⟨g, 0, none⟩), .int .i64 a1] w fun e w' => e = .returned (.int .i64 r1) ∧ IsS81 w0 w' g s0_0 r2 ∧ Below w0.heap.size w0 w' ∧ KeepBut w w' g none := by
  have HI0 := Aside0.mk hI
  have HK := Aside0.mk (KeepBut.refl w g none)
  have HL := Aside0.mk hB.size
  clear hI
  have HW0 := Aside0.mk hB.size
  have HB := Aside0.mk hB
  clear hB
  have H : (if a1 < 1 then (spec_l6Rd_pick.j0 k a1 true s0_0 (wrap64 (s0_1 + 1))) else (spec_l6Rd_pick.j0 k a1 ((s0_0.length : Int) == 0) s0_0 (wrap64 (s0_1 + 1)))) = some (r1, r2) := h
  clear h
  have HC3 := Aside0.mk H
  clear H
  obtain ⟨ASz4_0, cSz4_0, HGz4, hgz4, HSz4_0⟩ := HI0.out
  have hcz4_0 := cellS81_0 HGz4
  have hcz4_1 := cellS81_1 HGz4
  have hfz4_1 := blk_frozen HGz4 1
  clear HGz4 hgz4
  go_enter Try.func48, Try.ntmps48
  go_upto_region 2 with (fail)
  repeat (go_quiet (fail); go_upto_region 2 with (fail))
  go_cut [24] (fun v24 wc => ∃ (kq : Nat) (x24_2 : Bool), v24 = .bool x24_2 ∧ Aside0 (spec_l6Rd_pick.j0 kq a1 x24_2 s0_0 (wrap64 (s0_1 + 1)) = some (r1, r2)) ∧ Aside0 (kq ≤ k) ∧ Aside0 (IsS81 w0 wc g s0_0 (wrap64 (s0_1 + 1))) ∧ Aside0 (KeepBut w wc g none) ∧ Aside0 (Below w0.heap.size w0 wc))
  case first =>
    have H := HC3.out
    clear HC3
    by_cases c5 : a1 < 1
    · rw [if_pos c5] at H
      have c5b0 : decide (a1 < 1) = true := decide_eq_true c5
      clear c5
      (first | rw [c5b0] | (simp only [i64_w, i32_w]; rw [c5b0]) | skip)
      have H' := Aside0.mk H
      clear H
      go_wp2
      repeat (go_quiet (fail); try go_wp2)
      go_meet
      case rel => exact ⟨_, (true), qq23, H', ⟨qq46⟩, ⟨qq6 HI0.out⟩, ⟨qq3⟩, ⟨qq5 HB.out HI0.out⟩⟩
    · rw [if_neg c5] at H
      have c5b0 : decide (a1 < 1) = false := decide_eq_false c5
      clear c5
      (first | rw [c5b0] | (simp only [i64_w, i32_w]; rw [c5b0]) | skip)
      have H' := Aside0.mk H
      clear H
      obtain ⟨ASz6_0, cSz6_0, HGz6, hgz6, HSz6_0⟩ := HI0.out
      have hcz6_0 := cellS81_0 HGz6
      have hcz6_1 := cellS81_1 HGz6
      have hfz6_1 := blk_frozen HGz6 1
      clear HGz6 hgz6
      go_wp2
      repeat (go_quiet (fail); try go_wp2)
      go_meet
      case rel => exact ⟨_, (((s0_0.length : Int) == 0)), qq23, H', ⟨qq46⟩, ⟨qq6 HI0.out⟩, ⟨qq3⟩, ⟨qq5 HB.out HI0.out⟩⟩
  case rest =>
    clear HC3
    try clear p2
    try clear c4
    try clear c5
    try clear c5b0
    try clear p6
    try clear hcz4_0
    try clear hcz4_1
    try clear hcz6_0
    try clear hcz6_1
    try clear hfz4_1
    try clear hfz6_1
    obtain ⟨kq, x24_2, rfl, HA, HJ2, HI0, HK, HB⟩ := hcut
    cases kq with
    | zero => exact absurd HA.out (by simp [spec_l6Rd_pick.j0])
    | succ kj2 =>
      have H := HA.out
      clear HA
      simp only [spec_l6Rd_pick.j0] at H
      by_cases c7 : x24_2 = true
      · subst c7
        have H1 : (some (0, (wrap64 (s0_1 + 1)))) = some (r1, r2) := by rw [if_pos rfl] at H; exact H
        clear H
        have H := H1
        clear H1
        simp only [Option.some.injEq, Prod.mk.injEq] at H
        obtain ⟨rfl, rfl⟩ := H
        go_wp2
        repeat (go_quiet (fail); try go_wp2)
        go_ret
        exact ⟨qq11, qq6 HI0.out, qq5 HB.out HI0.out, qq3⟩
      · replace c7 := Bool.eq_false_iff.mpr c7
        subst c7
        have H1 : (if (wrap64 ((wrap64 (s0_1 + 1)) - 1)) < (s0_0.length : Int) then (if 0 ≤ (wrap64 ((wrap64 (s0_1 + 1)) - 1)) then (if a1 = 0 then (none) else (some (Int.tmod (wrap64 (rd s0_0 (wrap64 ((wrap64 (s0_1 + 1)) - 1)))) a1, (wrap64 (s0_1 + 1))))) else (none)) else (if (s0_0.length : Int) = 0 then (none) else (if 0 ≤ (Int.tmod (wrap64 ((wrap64 (s0_1 + 1)) - 1)) (s0_0.length : Int)) then (if (Int.tmod (wrap64 ((wrap64 (s0_1 + 1)) - 1)) (s0_0.length : Int)) < (s0_0.length : Int) then (if 0 ≤ (Int.tmod (wrap64 ((wrap64 ((wrap64 ((wrap64 (s0_1 + 1)) - 1)) * 7)) + 3)) (s0_0.length : Int)) then (if (Int.tmod (wrap64 ((wrap64 ((wrap64 ((wrap64 (s0_1 + 1)) - 1)) * 7)) + 3)) (s0_0.length : Int)) < (s0_0.length : Int) then (if a1 = 0 then (none) else (some (Int.tmod (Go.bits .xor .i64 (wrap64 ((wrap64 ((wrap64 ((wrap64 ((wrap64 (rd s0_0 (Int.tmod (wrap64 ((wrap64 (s0_1 + 1)) - 1)) (s0_0.length : Int)))) * 131)) + (wrap64 ((wrap64 (rd s0_0 (Int.tmod (wrap64 ((wrap64 ((wrap64 ((wrap64 (s0_1 + 1)) - 1)) * 7)) + 3)) (s0_0.length : Int)))) * 1117)))) + (wrap64 ((wrap64 ((wrap64 (s0_1 + 1)) - 1)) * 29)))) + (wrap64 ((wrap64 (Int.tdiv (wrap64 ((wrap64 (s0_1 + 1)) - 1)) (s0_0.length : Int))) * 53)))) (wrap64 (Int.tdiv (wrap64 ((wrap64 ((wrap64 ((wrap64 ((wrap64 (rd s0_0 (Int.tmod (wrap64 ((wrap64 (s0_1 + 1)) - 1)) (s0_0.length : Int)))) * 131)) + (wrap64 ((wrap64 (rd s0_0 (Int.tmod (wrap64 ((wrap64 ((wrap64 ((wrap64 (s0_1 + 1)) - 1)) * 7)) + 3)) (s0_0.length : Int)))) * 1117)))) + (wrap64 ((wrap64 ((wrap64 (s0_1 + 1)) - 1)) * 29)))) + (wrap64 ((wrap64 (Int.tdiv (wrap64 ((wrap64 (s0_1 + 1)) - 1)) (s0_0.length : Int))) * 53)))) 64))) a1, (wrap64 (s0_1 + 1))))) else (none)) else (none)) else (none)) else (none)))) = some (r1, r2) := by rw [if_neg (show ¬ (false = true) by decide)] at H; exact H
        clear H
        have H := H1
        clear H1
        by_cases c8 : (wrap64 ((wrap64 (s0_1 + 1)) - 1)) < (s0_0.length : Int)
        · rw [if_pos c8] at H
          have c8b0 : decide ((wrap64 ((wrap64 (s0_1 + 1)) - 1)) < (s0_0.length : Int)) = true := decide_eq_true c8
          clear c8
          obtain ⟨ji9, hji9⟩ : ∃ j_ : Int, (wrap64 ((wrap64 (s0_1 + 1)) - 1)) = j_ := ⟨_, rfl⟩
          replace H : (if 0 ≤ (ji9) then (if a1 = 0 then (none) else (some (Int.tmod (wrap64 (rd s0_0 (ji9))) a1, (wrap64 (s0_1 + 1))))) else (none)) = some (r1, r2) := by first | (rw [hji9] at H; exact H) | (simp only [hji9] at H ⊢; exact H)
          (try rw [hji9] at c8b0)
          have hji9w : (IntKind.i64.wrap ((wrap64 (s0_1 + 1)) - 1)) = ji9 := (i64_w _).trans hji9
          by_cases c10 : 0 ≤ (ji9)
          · rw [if_pos c10] at H
            have c10b0 : decide (0 ≤ (ji9)) = true := decide_eq_true c10
            clear c10
            by_cases c11 : a1 = 0
            · rw [if_pos c11] at H
              exact absurd H (by simp)
            · rw [if_neg c11] at H
              have c11b0 : (a1 == 0) = false := beq_eq_false_iff_ne.mpr c11
              have c11b1 : (a1 != 0) = true := bne_iff_ne.mpr c11
              simp only [Option.some.injEq, Prod.mk.injEq] at H
              obtain ⟨rfl, rfl⟩ := H
              obtain ⟨ASz12_0, cSz12_0, HGz12, hgz12, HSz12_0⟩ := HI0.out
              have hcz12_0 := cellS81_0 HGz12
              have hcz12_1 := cellS81_1 HGz12
              have hfz12_1 := blk_frozen HGz12 1
              clear HGz12 hgz12
              have p155 : 0 ≤ ((ji9) : Int) := of_decide_eq_true qq18
              have q155 : (ji9) < (s0_0.length : Int) := of_decide_eq_true qq18
              obtain ⟨ad155, e155, hx155_0⟩ := Kd.at_int HSz12_0 (ji9) p155 q155
              cases e155
              replace hx155_0 := pw_cell_below HB.out hx155_0
              replace p155 := eq_true p155
              replace q155 := eq_true q155
              go_wp2
              repeat (go_quiet (fail); try go_wp2)
              go_ret
              exact ⟨by first | rfl | (simp [errW_none, errW_some] <;> rfl) | (simp only [← hji9]; first | rfl | (simp [errW_none, errW_some] <;> rfl)) | (simp [*, errW_none, errW_some] <;> rfl), qq6 HI0.out, qq5 HB.out HI0.out, qq3⟩
          · rw [if_neg c10] at H
            exact absurd H (by simp)
        · rw [if_neg c8] at H
          have c8b0 : decide ((wrap64 ((wrap64 (s0_1 + 1)) - 1)) < (s0_0.length : Int)) = false := decide_eq_false c8
          clear c8
          by_cases c13 : (s0_0.length : Int) = 0
          · rw [if_pos c13] at H
            exact absurd H (by simp)
          · rw [if_neg c13] at H
            have c13b0 : ((s0_0.length : Int) == 0) = false := beq_eq_false_iff_ne.mpr c13
            have c13b1 : ((s0_0.length : Int) != 0) = true := bne_iff_ne.mpr c13
            have c13b2 : ¬ (s0_0 = []) := fun h_ => c13 (by rw [h_]; rfl)
            obtain ⟨ji14, hji14⟩ : ∃ j_ : Int, (Int.tmod (wrap64 ((wrap64 (s0_1 + 1)) - 1)) (s0_0.length : Int)) = j_ := ⟨_, rfl⟩
            replace H : (if 0 ≤ (ji14) then (if (ji14) < (s0_0.length : Int) then (if 0 ≤ (Int.tmod (wrap64 ((wrap64 ((wrap64 ((wrap64 (s0_1 + 1)) - 1)) * 7)) + 3)) (s0_0.length : Int)) then (if (Int.tmod (wrap64 ((wrap64 ((wrap64 ((wrap64 (s0_1 + 1)) - 1)) * 7)) + 3)) (s0_0.length : Int)) < (s0_0.length : Int) then (if a1 = 0 then (none) else (some (Int.tmod (Go.bits .xor .i64 (wrap64 ((wrap64 ((wrap64 ((wrap64 ((wrap64 (rd s0_0 (ji14))) * 131)) + (wrap64 ((wrap64 (rd s0_0 (Int.tmod (wrap64 ((wrap64 ((wrap64 ((wrap64 (s0_1 + 1)) - 1)) * 7)) + 3)) (s0_0.length : Int)))) * 1117)))) + (wrap64 ((wrap64 ((wrap64 (s0_1 + 1)) - 1)) * 29)))) + (wrap64 ((wrap64 (Int.tdiv (wrap64 ((wrap64 (s0_1 + 1)) - 1)) (s0_0.length : Int))) * 53)))) (wrap64 (Int.tdiv (wrap64 ((wrap64 ((wrap64 ((wrap64 ((wrap64 (rd s0_0 (ji14))) * 131)) + (wrap64 ((wrap64 (rd s0_0 (Int.tmod (wrap64 ((wrap64 ((wrap64 ((wrap64 (s0_1 + 1)) - 1)) * 7)) + 3)) (s0_0.length : Int)))) * 1117)))) + (wrap64 ((wrap64 ((wrap64 (s0_1 + 1)) - 1)) * 29)))) + (wrap64 ((wrap64 (Int.tdiv (wrap64 ((wrap64 (s0_1 + 1)) - 1)) (s0_0.length : Int))) * 53)))) 64))) a1, (wrap64 (s0_1 + 1))))) else (none)) else (none)) else (none)) else (none)) = some (r1, r2) := by first | (rw [hji14] at H; exact H) | (simp only [hji14] at H ⊢; exact H)
            by_cases c15 : 0 ≤ (ji14)
            · rw [if_pos c15] at H
              have c15b0 : decide (0 ≤ (ji14)) = true := decide_eq_true c15
              clear c15
              by_cases c16 : (ji14) < (s0_0.length : Int)
              · rw [if_pos c16] at H
                have c16b0 : decide ((ji14) < (s0_0.length : Int)) = true := decide_eq_true c16
                clear c16
                obtain ⟨ji17, hji17⟩ : ∃ j_ : Int, (Int.tmod (wrap64 ((wrap64 ((wrap64 ((wrap64 (s0_1 + 1)) - 1)) * 7)) + 3)) (s0_0.length : Int)) = j_ := ⟨_, rfl⟩
                replace H : (if 0 ≤ (ji17) then (if (ji17) < (s0_0.length : Int) then (if a1 = 0 then (none) else (some (Int.tmod (Go.bits .xor .i64 (wrap64 ((wrap64 ((wrap64 ((wrap64 ((wrap64 (rd s0_0 (ji14))) * 131)) + (wrap64 ((wrap64 (rd s0_0 (ji17))) * 1117)))) + (wrap64 ((wrap64 ((wrap64 (s0_1 + 1)) - 1)) * 29)))) + (wrap64 ((wrap64 (Int.tdiv (wrap64 ((wrap64 (s0_1 + 1)) - 1)) (s0_0.length : Int))) * 53)))) (wrap64 (Int.tdiv (wrap64 ((wrap64 ((wrap64 ((wrap64 ((wrap64 (rd s0_0 (ji14))) * 131)) + (wrap64 ((wrap64 (rd s0_0 (ji17))) * 1117)))) + (wrap64 ((wrap64 ((wrap64 (s0_1 + 1)) - 1)) * 29)))) + (wrap64 ((wrap64 (Int.tdiv (wrap64 ((wrap64 (s0_1 + 1)) - 1)) (s0_0.length : Int))) * 53)))) 64))) a1, (wrap64 (s0_1 + 1))))) else (none)) else (none)) = some (r1, r2) := by first | (rw [hji17] at H; exact H) | (simp only [hji17] at H ⊢; exact H)
                by_cases c18 : 0 ≤ (ji17)
                · rw [if_pos c18] at H
                  have c18b0 : decide (0 ≤ (ji17)) = true := decide_eq_true c18
                  clear c18
                  by_cases c19 : (ji17) < (s0_0.length : Int)
                  · rw [if_pos c19] at H
                    have c19b0 : decide ((ji17) < (s0_0.length : Int)) = true := decide_eq_true c19
                    clear c19
                    by_cases c20 : a1 = 0
                    · rw [if_pos c20] at H
                      exact absurd H (by simp)
                    · rw [if_neg c20] at H
                      have c20b0 : (a1 == 0) = false := beq_eq_false_iff_ne.mpr c20
                      have c20b1 : (a1 != 0) = true := bne_iff_ne.mpr c20
                      simp only [Option.some.injEq, Prod.mk.injEq] at H
                      obtain ⟨rfl, rfl⟩ := H
                      obtain ⟨ASz21_0, cSz21_0, HGz21, hgz21, HSz21_0⟩ := HI0.out
                      have hcz21_0 := cellS81_0 HGz21
                      have hcz21_1 := cellS81_1 HGz21
                      have hfz21_1 := blk_frozen HGz21 1
                      clear HGz21 hgz21
                      have p156 : 0 ≤ ((ji14) : Int) := of_decide_eq_true qq18
                      have q156 : (ji14) < (s0_0.length : Int) := of_decide_eq_true qq18
                      obtain ⟨ad156, e156, hx156_0⟩ := Kd.at_int HSz21_0 (ji14) p156 q156
                      cases e156
                      replace hx156_0 := pw_cell_below HB.out hx156_0
                      replace p156 := eq_true p156
                      replace q156 := eq_true q156
                      have p157 : 0 ≤ ((ji17) : Int) := of_decide_eq_true qq18
                      have q157 : (ji17) < (s0_0.length : Int) := of_decide_eq_true qq18
                      obtain ⟨ad157, e157, hx157_0⟩ := Kd.at_int HSz21_0 (ji17) p157 q157
                      obtain rfl : ad156 = ad157 := (by injection e157)
                      replace hx157_0 := pw_cell_below HB.out hx157_0
                      replace p157 := eq_true p157
                      replace q157 := eq_true q157
                      go_wp2
                      repeat (go_quiet (fail); try go_wp2)
                      go_ret
                      exact ⟨by first | rfl | (simp [errW_none, errW_some] <;> rfl) | (simp only [← hji14, ← hji17]; first | rfl | (simp [errW_none, errW_some] <;> rfl)) | (simp [*, errW_none, errW_some] <;> rfl), qq6 HI0.out, qq5 HB.out HI0.out, qq3⟩
                  · rw [if_neg c19] at H
                    exact absurd H (by simp)
                · rw [if_neg c18] at H
                  exact absurd H (by simp)
              · rw [if_neg c16] at H
                exact absurd H (by simp)
            · rw [if_neg c15] at H
              exact absurd H (by simp)

end Go.Proofs.Ytgdhgncdpmalcaa.Q
namespace Go.Proofs.Ytgdhgncdpmalcaa.Q
open Go.RowKit Go.Proofs.YtgdhgncdpmalcaaW.PrintWords Go.Proofs.YtgdhgncdpmalcaaW.PrintLast Go.Proofs.YtgdhgncdpmalcaaW.PrintMore
attribute [local go_sem] max2_int min2_int max_two min_two max_three min_three max_four min_four
set_option linter.unusedVariables false
set_option linter.unusedSimpArgs false

/-! ### spec_l91Point: function 55 -/
def spec_l91Point.f (k : Nat) (s0_0 : List Int) (s0_1 : Int) : Option (Int × Int × Int) := (spec_l6Rd_pick.f k s0_0 s0_1 13).bind fun bt159 => ((spec_l6Rd_pick.f k s0_0 bt159.2 13).bind fun bt161 => ((spec_l6Rd_pick.f k s0_0 bt161.2 40).bind fun bt164 => (if bt164.1 = 0 then ((some (([10000, 10001, (-10001)] : List Int) : List Int)).bind fun y166 => ((spec_l6Rd_pick.f k s0_0 bt164.2 3).bind fun bt169 => (if 0 ≤ bt169.1 then (if bt169.1 < (y166.length : Int) then (some (rd y166 bt169.1, wrap64 (bt161.1 - 6), bt169.2)) else (none)) else (none)))) else (if bt164.1 = 1 then ((spec_l6Rd_pick.f k s0_0 bt164.2 200).bind fun bt172 => ((spec_l6Rd_pick.f k s0_0 bt172.2 200).bind fun bt174 => (some (wrap64 ((wrap64 (bt172.1 * 50)) - 5000), wrap64 ((wrap64 (bt174.1 * 50)) - 5000), bt174.2)))) else (some (wrap64 (bt159.1 - 6), wrap64 (bt161.1 - 6), bt164.2))))))
set_option maxHeartbeats 8000000 in
set_option maxRecDepth 100000 in
theorem spec_l91Point.calls (k : Nat) (g : Nat) (s0_0 : List Int) (s0_1 : Int) (r1 : Int) (r2 : Int) (r3 : Int) (w0 w : World) (hI : IsS81 w0 w g s0_0 s0_1) (hB : Below w0.heap.size w0 w) (h : spec_l91Point.f k s0_0 s0_1 = some (r1, r2, r3)) :
    Calls Try.prog 55 #[.pointer (some ⟨g, 0, none⟩)] w fun e w' => e = .returned (.agg #[.int .i64 r1, .int .i64 r2]) ∧ IsS81 w0 w' g s0_0 r3 ∧ Below w0.heap.size w0 w' ∧ KeepBut w w' g none := by
  have hu32 := Try.underlying32
  have HI0 := Aside0.mk hI
  have HK := Aside0.mk (KeepBut.refl w g none)
  have HL := Aside0.mk hB.size
  clear hI
  have HW0 := Aside0.mk hB.size
  have HB := Aside0.mk hB
  clear hB
  have H : ((spec_l6Rd_pick.f k s0_0 s0_1 13).bind fun bt159 => ((spec_l6Rd_pick.f k s0_0 bt159.2 13).bind fun bt161 => ((spec_l6Rd_pick.f k s0_0 bt161.2 40).bind fun bt164 => (if bt164.1 = 0 then ((some (([10000, 10001, (-10001)] : List Int) : List Int)).bind fun y166 => ((spec_l6Rd_pick.f k s0_0 bt164.2 3).bind fun bt169 => (if 0 ≤ bt169.1 then (if bt169.1 < (y166.length : Int) then (some (rd y166 bt169.1, wrap64 (bt161.1 - 6), bt169.2)) else (none)) else (none)))) else (if bt164.1 = 1 then ((spec_l6Rd_pick.f k s0_0 bt164.2 200).bind fun bt172 => ((spec_l6Rd_pick.f k s0_0 bt172.2 200).bind fun bt174 => (some (wrap64 ((wrap64 (bt172.1 * 50)) - 5000), wrap64 ((wrap64 (bt174.1 * 50)) - 5000), bt174.2)))) else (some (wrap64 (bt159.1 - 6), wrap64 (bt161.1 - 6), bt164.2))))))) = some (r1, r2, r3) := h
  clear h
  replace H := Option.bind_eq_some_iff.mp H
  obtain ⟨⟨t159, t160⟩, A20, H⟩ := H
  replace H : ((spec_l6Rd_pick.f k s0_0 t160 13).bind fun bt161 => ((spec_l6Rd_pick.f k s0_0 bt161.2 40).bind fun bt164 => (if bt164.1 = 0 then ((some (([10000, 10001, (-10001)] : List Int) : List Int)).bind fun y166 => ((spec_l6Rd_pick.f k s0_0 bt164.2 3).bind fun bt169 => (if 0 ≤ bt169.1 then (if bt169.1 < (y166.length : Int) then (some (rd y166 bt169.1, wrap64 (bt161.1 - 6), bt169.2)) else (none)) else (none)))) else (if bt164.1 = 1 then ((spec_l6Rd_pick.f k s0_0 bt164.2 200).bind fun bt172 => ((spec_l6Rd_pick.f k s0_0 bt172.2 200).bind fun bt174 => (some (wrap64 ((wrap64 (bt172.1 * 50)) - 5000), wrap64 ((wrap64 (bt174.1 * 50)) - 5000), bt174.2)))) else (some (wrap64 (t159 - 6), wrap64 (bt161.1 - 6), bt164.2)))))) = some (r1, r2, r3) := H
  have A2 := Aside0.mk A20
  clear A20
  replace H := Option.bind_eq_some_iff.mp H
  obtain ⟨⟨t161, t162⟩, A30, H⟩ := H
  replace H : ((spec_l6Rd_pick.f k s0_0 t162 40).bind fun bt164 => (if bt164.1 = 0 then ((some (([10000, 10001, (-10001)] : List Int) : List Int)).bind fun y166 => ((spec_l6Rd_pick.f k s0_0 bt164.2 3).bind fun bt169 => (if 0 ≤ bt169.1 then (if bt169.1 < (y166.length : Int) then (some (rd y166 bt169.1, wrap64 (t161 - 6), bt169.2)) else (none)) else (none)))) else (if bt164.1 = 1 then ((spec_l6Rd_pick.f k s0_0 bt164.2 200).bind fun bt172 => ((spec_l6Rd_pick.f k s0_0 bt172.2 200).bind fun bt174 => (some (wrap64 ((wrap64 (bt172.1 * 50)) - 5000), wrap64 ((wrap64 (bt174.1 * 50)) - 5000), bt174.2)))) else (some (wrap64 (t159 - 6), wrap64 (t161 - 6), bt164.2))))) = some (r1, r2, r3) := H
  have A3 := Aside0.mk A30
  clear A30
  replace H := Option.bind_eq_some_iff.mp H
  obtain ⟨⟨t164, t165⟩, A40, H⟩ := H
  replace H : (if t164 = 0 then ((some (([10000, 10001, (-10001)] : List Int) : List Int)).bind fun y166 => ((spec_l6Rd_pick.f k s0_0 t165 3).bind fun bt169 => (if 0 ≤ bt169.1 then (if bt169.1 < (y166.length : Int) then (some (rd y166 bt169.1, wrap64 (t161 - 6), bt169.2)) else (none)) else (none)))) else (if t164 = 1 then ((spec_l6Rd_pick.f k s0_0 t165 200).bind fun bt172 => ((spec_l6Rd_pick.f k s0_0 bt172.2 200).bind fun bt174 => (some (wrap64 ((wrap64 (bt172.1 * 50)) - 5000), wrap64 ((wrap64 (bt174.1 * 50)) - 5000), bt174.2)))) else (some (wrap64 (t159 - 6), wrap64 (t161 - 6), t165)))) = some (r1, r2, r3) := H
  have A4 := Aside0.mk A40
  clear A40
  by_cases c5 : t164 = 0
  · rw [if_pos c5] at H
    have c5b0 : (t164 == 0) = true := beq_iff_eq.mpr c5
    have c5b1 : (t164 != 0) = false := bne_eq_false_iff_eq.mpr c5
    clear c5
    obtain ⟨y166, hy166⟩ : ∃ y_ : List Int, y_ = (([10000, 10001, (-10001)] : List Int)) := ⟨_, rfl⟩
    replace H : ((spec_l6Rd_pick.f k s0_0 t165 3).bind fun bt169 => (if 0 ≤ bt169.1 then (if bt169.1 < (y166.length : Int) then (some (rd y166 bt169.1, wrap64 (t161 - 6), bt169.2)) else (none)) else (none))) = some (r1, r2, r3) := by first | (rw [hy166]; with_reducible exact H) | (have H2_ := (Option.bind_some _ _).symm.trans H; rw [hy166]; with_reducible exact H2_) | (have H2_ := (Option.bind_some _ _).symm.trans H; with_reducible exact H2_) | with_reducible exact H | (rw [hy166]; exact H) | exact H
    have Ny166 := Aside0.mk hy166
    clear hy166
    replace H := Option.bind_eq_some_iff.mp H
    obtain ⟨⟨t169, t170⟩, A60, H⟩ := H
    replace H : (if 0 ≤ t169 then (if t169 < (y166.length : Int) then (some (rd y166 t169, wrap64 (t161 - 6), t170)) else (none)) else (none)) = some (r1, r2, r3) := H
    have A6 := Aside0.mk A60
    clear A60
    by_cases c7 : 0 ≤ t169
    · rw [if_pos c7] at H
      have c7b0 : decide (0 ≤ t169) = true := decide_eq_true c7
      clear c7
      by_cases c8 : t169 < (y166.length : Int)
      · rw [if_pos c8] at H
        have c8b0 : decide (t169 < (y166.length : Int)) = true := decide_eq_true c8
        clear c8
        simp only [Option.some.injEq, Prod.mk.injEq] at H
        obtain ⟨rfl, rfl, rfl⟩ := H
        go_enter Try.func55, Try.ntmps55
        go_wp2_with (first | ((with_reducible refine gate_dst (N := 2) rfl ?_); refine box_event ?hg (N := 2) ?hd (cs := #[.int .i64 0, .int .i64 0]) (t := 32) ?hr ?_; (case hd => rfl); (case hg => rfl); (case hr => exact qq21); intro gb158 hg w9 hbox hb; have n0_ := Aside0.mk (IsS81.below (qq6 HI0.out) hb); have n1_ := Aside0.mk (KeepBut.trans qq3 (KeepBut.of_below hb g none) (.inl rfl)); have n2_ := Aside0.mk (below_step (qq5 HB.out HI0.out) hb); have n3_ := Aside0.mk (hbox); have n4_ := Aside0.mk ((qq56 : w.heap.size ≤ gb158)); have n5_ := Aside0.mk ((Nat.le_trans HW0.out (qq56 : w.heap.size ≤ gb158) : w0.heap.size ≤ gb158)); have n6_ := Aside0.mk ((qq43 : g ≠ gb158)); have n7_ := Aside0.mk ((qq44 : gb158 ≠ g)); clear HI0; clear HK; clear HB; have HI0 := n0_; have HK := n1_; have HB := n2_; have BK158 := n3_; have GW158 := n4_; have GE158 := n5_; have NB0_158 := n6_; have NB158_0 := n7_; clear n0_ n1_ n2_ n3_ n4_ n5_ n6_ n7_; clear hb hbox hg) | ((with_reducible refine gate_callee (f := 48) rfl ?_); refine goesL_ (some 5) rfl rfl Try.func48 (by kernel_rfl) rfl #[.pointer (some ⟨g, 0, none⟩), .int .i64 13] rfl qq2 ?_; (with_reducible refine (spec_l6Rd_pick.calls k g s0_0 s0_1 13 t159 t160 w0 _ ?side1 ?side2 A2.out).mono ?_); (case side1 => exact qq25); (case side2 => exact qq24); rintro e w10 ⟨rfl, hi, hb, hk⟩; refine ⟨_, rfl, ?_⟩; have n0_ := Aside0.mk (KeepBut.blk hk (g' := gb158) (o := .cells #[.int .i64 0, .int .i64 0] 32 (0, 0)) (qq9 BK158.out) NB158_0.out (by simp)); have n1_ := Aside0.mk (KeepBut.trans qq17 hk (.inl rfl)); have n2_ := Aside0.mk (hb); have n3_ := Aside0.mk (hi); clear BK158; clear HK; clear HB; clear HI0; have BK158 := n0_; have HK := n1_; have HB := n2_; have HI0 := n3_; clear n0_ n1_ n2_ n3_; (try clear hb); (try clear hb2); (try clear hk); (try clear hi)) | ((with_reducible refine gate_callee (f := 48) rfl ?_); refine goesL_ (some 8) rfl rfl Try.func48 (by kernel_rfl) rfl #[.pointer (some ⟨g, 0, none⟩), .int .i64 13] rfl qq2 ?_; (with_reducible refine (spec_l6Rd_pick.calls k g s0_0 t160 13 t161 t162 w0 _ ?side1 ?side2 A3.out).mono ?_); (case side1 => exact qq25); (case side2 => exact qq24); rintro e w11 ⟨rfl, hi, hb, hk⟩; refine ⟨_, rfl, ?_⟩; have n0_ := Aside0.mk (KeepBut.blk hk (g' := gb158) (o := .cells #[.int .i64 0, .int .i64 0] 32 (0, 0)) (qq9 BK158.out) NB158_0.out (by simp)); have n1_ := Aside0.mk (KeepBut.trans qq17 hk (.inl rfl)); have n2_ := Aside0.mk (hb); have n3_ := Aside0.mk (hi); clear BK158; clear HK; clear HB; clear HI0; have BK158 := n0_; have HK := n1_; have HB := n2_; have HI0 := n3_; clear n0_ n1_ n2_ n3_; (try clear hb); (try clear hb2); (try clear hk); (try clear hi)) | ((with_reducible refine gate_dst (N := 3) rfl ?_); refine box_event ?hg (N := 3) ?hd (cs := #[.int .i64 0, .int .i64 0]) (t := 32) ?hr ?_; (case hd => rfl); (case hg => rfl); (case hr => exact qq21); intro gb163 hg w12 hbox hb; have n0_ := Aside0.mk (IsS81.below qq25 hb); have n1_ := Aside0.mk (bbl_ BK158.out hb); have n2_ := Aside0.mk (KeepBut.trans qq17 (KeepBut.of_below hb g none) (.inl rfl)); have n3_ := Aside0.mk (below_step qq24 hb); have n4_ := Aside0.mk (hbox); have n5_ := Aside0.mk ((qq55 : w.heap.size ≤ gb163)); have n6_ := Aside0.mk ((Nat.le_trans HW0.out (qq55 : w.heap.size ≤ gb163) : w0.heap.size ≤ gb163)); have n7_ := Aside0.mk ((qq26 BK158.out : gb158 ≠ gb163)); have n8_ := Aside0.mk ((qq27 BK158.out : gb163 ≠ gb158)); have n9_ := Aside0.mk ((qq36 : g ≠ gb163)); have n10_ := Aside0.mk ((qq37 : gb163 ≠ g)); clear HI0; clear BK158; clear HK; clear HB; have HI0 := n0_; have BK158 := n1_; have HK := n2_; have HB := n3_; have BK163 := n4_; have GW163 := n5_; have GE163 := n6_; have NB158_163 := n7_; have NB163_158 := n8_; have NB0_163 := n9_; have NB163_0 := n10_; clear n0_ n1_ n2_ n3_ n4_ n5_ n6_ n7_ n8_ n9_ n10_; clear hb hbox hg; have hnb13 := NB163_158.out; have hnc13 := NB158_163.out; have hnb14 := NB163_0.out; have hnc14 := NB0_163.out; have hcz15_0 : w12.cell? ⟨gb163, 0, none⟩ = some (.int .i64 0) := (blk_cell BK163.out 0).trans rfl; have hcz15_1 : w12.cell? ⟨gb163, 1, none⟩ = some (.int .i64 0) := (blk_cell BK163.out 1).trans rfl; have hfz15_0 := blk_frozen BK163.out 0; have hfz15_1 := blk_frozen BK163.out 1) | ((with_reducible refine gate_callee (f := 48) rfl ?_); refine goesL_ (some 12) rfl rfl Try.func48 (by kernel_rfl) rfl #[.pointer (some ⟨g, 0, none⟩), .int .i64 40] rfl qq2 ?_; (with_reducible refine (spec_l6Rd_pick.calls k g s0_0 t162 40 t164 t165 w0 _ ?side1 ?side2 A4.out).mono ?_); (case side1 => exact qq22); (case side2 => exact qq20); rintro e w16 ⟨rfl, hi, hb, hk⟩; refine ⟨_, rfl, ?_⟩; have n0_ := Aside0.mk (KeepBut.blk hk (g' := gb158) (o := .cells #[.int .i64 0, .int .i64 0] 32 (0, 0)) (qq13 NB158_163.out BK158.out) NB158_0.out (by simp)); have n1_ := Aside0.mk (KeepBut.blk hk (g' := gb163) (o := .cells #[.int .i64 (wrap64 (t159 - 6)), .int .i64 (wrap64 (t161 - 6))] 32 (0, 0)) (qq28 BK163.out) NB163_0.out (by simp)); have n2_ := Aside0.mk (KeepBut.trans qq19 hk (.inl rfl)); have n3_ := Aside0.mk (hb); have n4_ := Aside0.mk (hi); clear BK158; clear BK163; clear HK; clear HB; clear HI0; have BK158 := n0_; have BK163 := n1_; have HK := n2_; have HB := n3_; have HI0 := n4_; clear n0_ n1_ n2_ n3_ n4_; (try clear hb); (try clear hb2); (try clear hk); (try clear hi)) | ((with_reducible refine gate_dst (N := 15) rfl ?_); refine Kd.R_lit (Kd.int .i64) _ 3 ?hg (N := 15) ?hd (xs := ([10000, 10001, (-10001)] : List Int)) (inner := [.int .i64 10000, .int .i64 10001, .int .i64 (-10001)]) (ok := fun _ => True) (okp := fun _ => True) ?hr ?hp (fun _ hk => hk) trivial (Below.refl _ _) (Nat.le_refl _) (by simp) ?_; (case hd => rfl); (case hg => rfl); (case hr => exact qq21); (case hp => exact (Reps.one (show Kd.M (Kd.int .i64) _ _ _ 10000 [.int .i64 10000] from rfl) (Reps.one (show Kd.M (Kd.int .i64) _ _ _ 10001 [.int .i64 10001] from rfl) (Reps.one (show Kd.M (Kd.int .i64) _ _ _ (-10001) [.int .i64 (-10001)] from rfl) (Reps.none _ _))))); intro v167 w17 ho18 hb hg_ hnew_; clear hg_ hnew_; (first | rw [← Ny166.out] at ho18 | (simp only [Int.reduceToNat] at ho18; rw [← Ny166.out] at ho18)); have n0_ := Aside0.mk (Kd.R_lower ho18 (keep_size (w := w) (g := g) (row := none) qq19)); have n1_ := Aside0.mk (IsS81.below qq22 hb); have n2_ := Aside0.mk (bbl_ BK158.out hb); have n3_ := Aside0.mk (bbl_ BK163.out hb); have n4_ := Aside0.mk (KeepBut.trans qq19 (KeepBut.of_below hb g none) (.inl rfl)); have n5_ := Aside0.mk (below_step qq20 hb); clear HI0; clear BK158; clear BK163; clear HK; clear HB; have HO168 := n0_; have HI0 := n1_; have BK158 := n2_; have BK163 := n3_; have HK := n4_; have HB := n5_; clear n0_ n1_ n2_ n3_ n4_ n5_; clear hb ho18) | ((with_reducible refine gate_callee (f := 48) rfl ?_); refine goesL_ (some 17) rfl rfl Try.func48 (by kernel_rfl) rfl #[.pointer (some ⟨g, 0, none⟩), .int .i64 3] rfl qq2 ?_; (with_reducible refine (spec_l6Rd_pick.calls k g s0_0 t165 3 t169 t170 w0 _ ?side1 ?side2 A6.out).mono ?_); (case side1 => exact qq22); (case side2 => exact qq20); rintro e w19 ⟨rfl, hi, hb, hk⟩; refine ⟨_, rfl, ?_⟩; have n0_ := Aside0.mk (KeepBut.blk hk (g' := gb158) (o := .cells #[.int .i64 0, .int .i64 0] 32 (0, 0)) (qq9 BK158.out) NB158_0.out (by simp)); have n1_ := Aside0.mk (KeepBut.blk hk (g' := gb163) (o := .cells #[.int .i64 (wrap64 (t159 - 6)), .int .i64 (wrap64 (t161 - 6))] 32 (0, 0)) (qq9 BK163.out) NB163_0.out (by simp)); have n2_ := Aside0.mk (Kd.R_mono (Kd.R_keep (IsS81.apart (show IsS81 w0 _ g s0_0 t165 from by repeat (first | (with_reducible first | exact HI0.out | apply IsS81.alloc | apply IsS81.drewN | apply IsS81.drew | apply IsS81.set_1 | refine IsS81.far ?_ NB0_158.out _ | refine IsS81.far ?_ NB0_163.out _) | exact HI0.out)) (qq4 HO168.out) (by decide)) hk (fun _ h => h.2)) (fun _ h => h.1)); have n3_ := Aside0.mk (KeepBut.trans qq19 hk (.inl rfl)); have n4_ := Aside0.mk (hb); have n5_ := Aside0.mk (hi); clear BK158; clear BK163; clear HO168; clear HK; clear HB; clear HI0; have BK158 := n0_; have BK163 := n1_; have HO168 := n2_; have HK := n3_; have HB := n4_; have HI0 := n5_; clear n0_ n1_ n2_ n3_ n4_ n5_; (try clear hb); (try clear hb2); (try clear hk); (try clear hi); obtain ⟨Ao20, co20, eo20⟩ := Kd.R_slice HO168.out; subst eo20; have p171 : 0 ≤ (t169 : Int) := of_decide_eq_true qq18; have q171 : t169 < (y166.length : Int) := of_decide_eq_true qq18; obtain ⟨ad171, e171, hx171_0⟩ := Kd.at_int (Kd.R_reads' HO168.out).2.2 t169 p171 q171; cases e171; replace p171 := eq_true p171; replace q171 := eq_true q171; have hcz21_0 : w19.cell? ⟨gb163, 0, none⟩ = some (.int .i64 (wrap64 (t159 - 6))) := (blk_cell BK163.out 0).trans rfl; have hcz21_1 : w19.cell? ⟨gb163, 1, none⟩ = some (.int .i64 (wrap64 (t161 - 6))) := (blk_cell BK163.out 1).trans rfl; have hfz21_0 := blk_frozen BK163.out 0; have hfz21_1 := blk_frozen BK163.out 1; have hnb22 := NB158_0.out; have hnc22 := NB0_158.out; have hcz23_0 : w19.cell? ⟨gb158, 0, none⟩ = some (.int .i64 0) := (blk_cell BK158.out 0).trans rfl; have hcz23_1 : w19.cell? ⟨gb158, 1, none⟩ = some (.int .i64 0) := (blk_cell BK158.out 1).trans rfl; have hfz23_0 := blk_frozen BK158.out 0; have hfz23_1 := blk_frozen BK158.out 1))
        refine bodyPost_ret (results_cell_row rfl _ _ gb158 32 #[.int .i64 (rd y166 t169), .int .i64 (wrap64 (t161 - 6))] (0, 0) _ rfl (by (with_reducible repeat (first | refine blk_drewN ?_ _ | refine blk_drew ?_ | refine blk_alloc ?_ _)); refine blk_put (cs := #[.int .i64 (rd y166 t169), .int .i64 0]) ?_ 1 _ rfl; (with_reducible repeat (first | refine blk_drewN ?_ _ | refine blk_drew ?_ | refine blk_alloc ?_ _)); refine blk_put (cs := #[.int .i64 0, .int .i64 0]) ?_ 0 _ rfl; (with_reducible repeat (first | refine blk_drewN ?_ _ | refine blk_drew ?_ | refine blk_alloc ?_ _)); refine blk_far ?_ NB158_163.out _; (with_reducible repeat (first | refine blk_drewN ?_ _ | refine blk_drew ?_ | refine blk_alloc ?_ _)); exact BK158.out) Try.underlying32 rfl (by kernel_rfl)) rfl ?_
        exact ⟨qq11, qq22, qq20, qq19⟩
      · rw [if_neg c8] at H
        exact absurd H (by simp)
    · rw [if_neg c7] at H
      exact absurd H (by simp)
  · rw [if_neg c5] at H
    have c5b0 : (t164 == 0) = false := beq_eq_false_iff_ne.mpr c5
    have c5b1 : (t164 != 0) = true := bne_iff_ne.mpr c5
    by_cases c24 : t164 = 1
    · rw [if_pos c24] at H
      have c24b0 : (t164 == 1) = true := beq_iff_eq.mpr c24
      have c24b1 : (t164 != 1) = false := bne_eq_false_iff_eq.mpr c24
      clear c24
      replace H := Option.bind_eq_some_iff.mp H
      obtain ⟨⟨t172, t173⟩, A250, H⟩ := H
      replace H : ((spec_l6Rd_pick.f k s0_0 t173 200).bind fun bt174 => (some (wrap64 ((wrap64 (t172 * 50)) - 5000), wrap64 ((wrap64 (bt174.1 * 50)) - 5000), bt174.2))) = some (r1, r2, r3) := H
      have A25 := Aside0.mk A250
      clear A250
      replace H := Option.bind_eq_some_iff.mp H
      obtain ⟨⟨t174, t175⟩, A260, H⟩ := H
      replace H : (some (wrap64 ((wrap64 (t172 * 50)) - 5000), wrap64 ((wrap64 (t174 * 50)) - 5000), t175)) = some (r1, r2, r3) := H
      have A26 := Aside0.mk A260
      clear A260
      simp only [Option.some.injEq, Prod.mk.injEq] at H
      obtain ⟨rfl, rfl, rfl⟩ := H
      go_enter Try.func55, Try.ntmps55
      go_wp2_with (first | ((with_reducible refine gate_dst (N := 2) rfl ?_); refine box_event ?hg (N := 2) ?hd (cs := #[.int .i64 0, .int .i64 0]) (t := 32) ?hr ?_; (case hd => rfl); (case hg => rfl); (case hr => exact qq21); intro gb158 hg w27 hbox hb; have n0_ := Aside0.mk (IsS81.below (qq6 HI0.out) hb); have n1_ := Aside0.mk (KeepBut.trans qq3 (KeepBut.of_below hb g none) (.inl rfl)); have n2_ := Aside0.mk (below_step (qq5 HB.out HI0.out) hb); have n3_ := Aside0.mk (hbox); have n4_ := Aside0.mk ((qq56 : w.heap.size ≤ gb158)); have n5_ := Aside0.mk ((Nat.le_trans HW0.out (qq56 : w.heap.size ≤ gb158) : w0.heap.size ≤ gb158)); have n6_ := Aside0.mk ((qq43 : g ≠ gb158)); have n7_ := Aside0.mk ((qq44 : gb158 ≠ g)); clear HI0; clear HK; clear HB; have HI0 := n0_; have HK := n1_; have HB := n2_; have BK158 := n3_; have GW158 := n4_; have GE158 := n5_; have NB0_158 := n6_; have NB158_0 := n7_; clear n0_ n1_ n2_ n3_ n4_ n5_ n6_ n7_; clear hb hbox hg) | ((with_reducible refine gate_callee (f := 48) rfl ?_); refine goesL_ (some 5) rfl rfl Try.func48 (by kernel_rfl) rfl #[.pointer (some ⟨g, 0, none⟩), .int .i64 13] rfl qq2 ?_; (with_reducible refine (spec_l6Rd_pick.calls k g s0_0 s0_1 13 t159 t160 w0 _ ?side1 ?side2 A2.out).mono ?_); (case side1 => exact qq25); (case side2 => exact qq24); rintro e w28 ⟨rfl, hi, hb, hk⟩; refine ⟨_, rfl, ?_⟩; have n0_ := Aside0.mk (KeepBut.blk hk (g' := gb158) (o := .cells #[.int .i64 0, .int .i64 0] 32 (0, 0)) (qq9 BK158.out) NB158_0.out (by simp)); have n1_ := Aside0.mk (KeepBut.trans qq17 hk (.inl rfl)); have n2_ := Aside0.mk (hb); have n3_ := Aside0.mk (hi); clear BK158; clear HK; clear HB; clear HI0; have BK158 := n0_; have HK := n1_; have HB := n2_; have HI0 := n3_; clear n0_ n1_ n2_ n3_; (try clear hb); (try clear hb2); (try clear hk); (try clear hi)) | ((with_reducible refine gate_callee (f := 48) rfl ?_); refine goesL_ (some 8) rfl rfl Try.func48 (by kernel_rfl) rfl #[.pointer (some ⟨g, 0, none⟩), .int .i64 13] rfl qq2 ?_; (with_reducible refine (spec_l6Rd_pick.calls k g s0_0 t160 13 t161 t162 w0 _ ?side1 ?side2 A3.out).mono ?_); (case side1 => exact qq25); (case side2 => exact qq24); rintro e w29 ⟨rfl, hi, hb, hk⟩; refine ⟨_, rfl, ?_⟩; have n0_ := Aside0.mk (KeepBut.blk hk (g' := gb158) (o := .cells #[.int .i64 0, .int .i64 0] 32 (0, 0)) (qq9 BK158.out) NB158_0.out (by simp)); have n1_ := Aside0.mk (KeepBut.trans qq17 hk (.inl rfl)); have n2_ := Aside0.mk (hb); have n3_ := Aside0.mk (hi); clear BK158; clear HK; clear HB; clear HI0; have BK158 := n0_; have HK := n1_; have HB := n2_; have HI0 := n3_; clear n0_ n1_ n2_ n3_; (try clear hb); (try clear hb2); (try clear hk); (try clear hi)) | ((with_reducible refine gate_dst (N := 3) rfl ?_); refine box_event ?hg (N := 3) ?hd (cs := #[.int .i64 0, .int .i64 0]) (t := 32) ?hr ?_; (case hd => rfl); (case hg => rfl); (case hr => exact qq21); intro gb163 hg w30 hbox hb; have n0_ := Aside0.mk (IsS81.below qq25 hb); have n1_ := Aside0.mk (bbl_ BK158.out hb); have n2_ := Aside0.mk (KeepBut.trans qq17 (KeepBut.of_below hb g none) (.inl rfl)); have n3_ := Aside0.mk (below_step qq24 hb); have n4_ := Aside0.mk (hbox); have n5_ := Aside0.mk ((qq55 : w.heap.size ≤ gb163)); have n6_ := Aside0.mk ((Nat.le_trans HW0.out (qq55 : w.heap.size ≤ gb163) : w0.heap.size ≤ gb163)); have n7_ := Aside0.mk ((qq26 BK158.out : gb158 ≠ gb163)); have n8_ := Aside0.mk ((qq27 BK158.out : gb163 ≠ gb158)); have n9_ := Aside0.mk ((qq36 : g ≠ gb163)); have n10_ := Aside0.mk ((qq37 : gb163 ≠ g)); clear HI0; clear BK158; clear HK; clear HB; have HI0 := n0_; have BK158 := n1_; have HK := n2_; have HB := n3_; have BK163 := n4_; have GW163 := n5_; have GE163 := n6_; have NB158_163 := n7_; have NB163_158 := n8_; have NB0_163 := n9_; have NB163_0 := n10_; clear n0_ n1_ n2_ n3_ n4_ n5_ n6_ n7_ n8_ n9_ n10_; clear hb hbox hg; have hnb31 := NB163_158.out; have hnc31 := NB158_163.out; have hnb32 := NB163_0.out; have hnc32 := NB0_163.out; have hcz33_0 : w30.cell? ⟨gb163, 0, none⟩ = some (.int .i64 0) := (blk_cell BK163.out 0).trans rfl; have hcz33_1 : w30.cell? ⟨gb163, 1, none⟩ = some (.int .i64 0) := (blk_cell BK163.out 1).trans rfl; have hfz33_0 := blk_frozen BK163.out 0; have hfz33_1 := blk_frozen BK163.out 1) | ((with_reducible refine gate_callee (f := 48) rfl ?_); refine goesL_ (some 12) rfl rfl Try.func48 (by kernel_rfl) rfl #[.pointer (some ⟨g, 0, none⟩), .int .i64 40] rfl qq2 ?_; (with_reducible refine (spec_l6Rd_pick.calls k g s0_0 t162 40 t164 t165 w0 _ ?side1 ?side2 A4.out).mono ?_); (case side1 => exact qq22); (case side2 => exact qq20); rintro e w34 ⟨rfl, hi, hb, hk⟩; refine ⟨_, rfl, ?_⟩; have n0_ := Aside0.mk (KeepBut.blk hk (g' := gb158) (o := .cells #[.int .i64 0, .int .i64 0] 32 (0, 0)) (qq13 NB158_163.out BK158.out) NB158_0.out (by simp)); have n1_ := Aside0.mk (KeepBut.blk hk (g' := gb163) (o := .cells #[.int .i64 (wrap64 (t159 - 6)), .int .i64 (wrap64 (t161 - 6))] 32 (0, 0)) (qq28 BK163.out) NB163_0.out (by simp)); have n2_ := Aside0.mk (KeepBut.trans qq19 hk (.inl rfl)); have n3_ := Aside0.mk (hb); have n4_ := Aside0.mk (hi); clear BK158; clear BK163; clear HK; clear HB; clear HI0; have BK158 := n0_; have BK163 := n1_; have HK := n2_; have HB := n3_; have HI0 := n4_; clear n0_ n1_ n2_ n3_ n4_; (try clear hb); (try clear hb2); (try clear hk); (try clear hi)) | ((with_reducible refine gate_callee (f := 48) rfl ?_); refine goesL_ (some 24) rfl rfl Try.func48 (by kernel_rfl) rfl #[.pointer (some ⟨g, 0, none⟩), .int .i64 200] rfl qq2 ?_; (with_reducible refine (spec_l6Rd_pick.calls k g s0_0 t165 200 t172 t173 w0 _ ?side1 ?side2 A25.out).mono ?_); (case side1 => exact qq22); (case side2 => exact qq20); rintro e w35 ⟨rfl, hi, hb, hk⟩; refine ⟨_, rfl, ?_⟩; have n0_ := Aside0.mk (KeepBut.blk hk (g' := gb158) (o := .cells #[.int .i64 0, .int .i64 0] 32 (0, 0)) (qq9 BK158.out) NB158_0.out (by simp)); have n1_ := Aside0.mk (KeepBut.blk hk (g' := gb163) (o := .cells #[.int .i64 (wrap64 (t159 - 6)), .int .i64 (wrap64 (t161 - 6))] 32 (0, 0)) (qq9 BK163.out) NB163_0.out (by simp)); have n2_ := Aside0.mk (KeepBut.trans qq19 hk (.inl rfl)); have n3_ := Aside0.mk (hb); have n4_ := Aside0.mk (hi); clear BK158; clear BK163; clear HK; clear HB; clear HI0; have BK158 := n0_; have BK163 := n1_; have HK := n2_; have HB := n3_; have HI0 := n4_; clear n0_ n1_ n2_ n3_ n4_; (try clear hb); (try clear hb2); (try clear hk); (try clear hi)) | ((with_reducible refine gate_callee (f := 48) rfl ?_); refine goesL_ (some 28) rfl rfl Try.func48 (by kernel_rfl) rfl #[.pointer (some ⟨g, 0, none⟩), .int .i64 200] rfl qq2 ?_; (with_reducible refine (spec_l6Rd_pick.calls k g s0_0 t173 200 t174 t175 w0 _ ?side1 ?side2 A26.out).mono ?_); (case side1 => exact qq22); (case side2 => exact qq20); rintro e w36 ⟨rfl, hi, hb, hk⟩; refine ⟨_, rfl, ?_⟩; have n0_ := Aside0.mk (KeepBut.blk hk (g' := gb158) (o := .cells #[.int .i64 0, .int .i64 0] 32 (0, 0)) (qq9 BK158.out) NB158_0.out (by simp)); have n1_ := Aside0.mk (KeepBut.blk hk (g' := gb163) (o := .cells #[.int .i64 (wrap64 (t159 - 6)), .int .i64 (wrap64 (t161 - 6))] 32 (0, 0)) (qq9 BK163.out) NB163_0.out (by simp)); have n2_ := Aside0.mk (KeepBut.trans qq19 hk (.inl rfl)); have n3_ := Aside0.mk (hb); have n4_ := Aside0.mk (hi); clear BK158; clear BK163; clear HK; clear HB; clear HI0; have BK158 := n0_; have BK163 := n1_; have HK := n2_; have HB := n3_; have HI0 := n4_; clear n0_ n1_ n2_ n3_ n4_; (try clear hb); (try clear hb2); (try clear hk); (try clear hi); have hnb37 := NB158_0.out; have hnc37 := NB0_158.out; have hcz38_0 : w36.cell? ⟨gb158, 0, none⟩ = some (.int .i64 0) := (blk_cell BK158.out 0).trans rfl; have hcz38_1 : w36.cell? ⟨gb158, 1, none⟩ = some (.int .i64 0) := (blk_cell BK158.out 1).trans rfl; have hfz38_0 := blk_frozen BK158.out 0; have hfz38_1 := blk_frozen BK158.out 1))
      refine bodyPost_ret (results_cell_row rfl _ _ gb158 32 #[.int .i64 (wrap64 ((wrap64 (t172 * 50)) - 5000)), .int .i64 (wrap64 ((wrap64 (t174 * 50)) - 5000))] (0, 0) _ rfl (by (with_reducible repeat (first | refine blk_drewN ?_ _ | refine blk_drew ?_ | refine blk_alloc ?_ _)); refine blk_put (cs := #[.int .i64 (wrap64 ((wrap64 (t172 * 50)) - 5000)), .int .i64 0]) ?_ 1 _ rfl; (with_reducible repeat (first | refine blk_drewN ?_ _ | refine blk_drew ?_ | refine blk_alloc ?_ _)); refine blk_put (cs := #[.int .i64 0, .int .i64 0]) ?_ 0 _ rfl; (with_reducible repeat (first | refine blk_drewN ?_ _ | refine blk_drew ?_ | refine blk_alloc ?_ _)); exact BK158.out) Try.underlying32 rfl (by kernel_rfl)) rfl ?_
      exact ⟨qq11, qq22, qq20, qq19⟩
    · rw [if_neg c24] at H
      have c24b0 : (t164 == 1) = false := beq_eq_false_iff_ne.mpr c24
      have c24b1 : (t164 != 1) = true := bne_iff_ne.mpr c24
      simp only [Option.some.injEq, Prod.mk.injEq] at H
      obtain ⟨rfl, rfl, rfl⟩ := H
      go_enter Try.func55, Try.ntmps55
      go_wp2_with (first | ((with_reducible refine gate_dst (N := 2) rfl ?_); refine box_event ?hg (N := 2) ?hd (cs := #[.int .i64 0, .int .i64 0]) (t := 32) ?hr ?_; (case hd => rfl); (case hg => rfl); (case hr => exact qq21); intro gb158 hg w39 hbox hb; have n0_ := Aside0.mk (IsS81.below (qq6 HI0.out) hb); have n1_ := Aside0.mk (KeepBut.trans qq3 (KeepBut.of_below hb g none) (.inl rfl)); have n2_ := Aside0.mk (below_step (qq5 HB.out HI0.out) hb); have n3_ := Aside0.mk (hbox); have n4_ := Aside0.mk ((qq56 : w.heap.size ≤ gb158)); have n5_ := Aside0.mk ((Nat.le_trans HW0.out (qq56 : w.heap.size ≤ gb158) : w0.heap.size ≤ gb158)); have n6_ := Aside0.mk ((qq43 : g ≠ gb158)); have n7_ := Aside0.mk ((qq44 : gb158 ≠ g)); clear HI0; clear HK; clear HB; have HI0 := n0_; have HK := n1_; have HB := n2_; have BK158 := n3_; have GW158 := n4_; have GE158 := n5_; have NB0_158 := n6_; have NB158_0 := n7_; clear n0_ n1_ n2_ n3_ n4_ n5_ n6_ n7_; clear hb hbox hg) | ((with_reducible refine gate_callee (f := 48) rfl ?_); refine goesL_ (some 5) rfl rfl Try.func48 (by kernel_rfl) rfl #[.pointer (some ⟨g, 0, none⟩), .int .i64 13] rfl qq2 ?_; (with_reducible refine (spec_l6Rd_pick.calls k g s0_0 s0_1 13 t159 t160 w0 _ ?side1 ?side2 A2.out).mono ?_); (case side1 => exact qq25); (case side2 => exact qq24); rintro e w40 ⟨rfl, hi, hb, hk⟩; refine ⟨_, rfl, ?_⟩; have n0_ := Aside0.mk (KeepBut.blk hk (g' := gb158) (o := .cells #[.int .i64 0, .int .i64 0] 32 (0, 0)) (qq9 BK158.out) NB158_0.out (by simp)); have n1_ := Aside0.mk (KeepBut.trans qq17 hk (.inl rfl)); have n2_ := Aside0.mk (hb); have n3_ := Aside0.mk (hi); clear BK158; clear HK; clear HB; clear HI0; have BK158 := n0_; have HK := n1_; have HB := n2_; have HI0 := n3_; clear n0_ n1_ n2_ n3_; (try clear hb); (try clear hb2); (try clear hk); (try clear hi)) | ((with_reducible refine gate_callee (f := 48) rfl ?_); refine goesL_ (some 8) rfl rfl Try.func48 (by kernel_rfl) rfl #[.pointer (some ⟨g, 0, none⟩), .int .i64 13] rfl qq2 ?_; (with_reducible refine (spec_l6Rd_pick.calls k g s0_0 t160 13 t161 t162 w0 _ ?side1 ?side2 A3.out).mono ?_); (case side1 => exact qq25); (case side2 => exact qq24); rintro e w41 ⟨rfl, hi, hb, hk⟩; refine ⟨_, rfl, ?_⟩; have n0_ := Aside0.mk (KeepBut.blk hk (g' := gb158) (o := .cells #[.int .i64 0, .int .i64 0] 32 (0, 0)) (qq9 BK158.out) NB158_0.out (by simp)); have n1_ := Aside0.mk (KeepBut.trans qq17 hk (.inl rfl)); have n2_ := Aside0.mk (hb); have n3_ := Aside0.mk (hi); clear BK158; clear HK; clear HB; clear HI0; have BK158 := n0_; have HK := n1_; have HB := n2_; have HI0 := n3_; clear n0_ n1_ n2_ n3_; (try clear hb); (try clear hb2); (try clear hk); (try clear hi)) | ((with_reducible refine gate_dst (N := 3) rfl ?_); refine box_event ?hg (N := 3) ?hd (cs := #[.int .i64 0, .int .i64 0]) (t := 32) ?hr ?_; (case hd => rfl); (case hg => rfl); (case hr => exact qq21); intro gb163 hg w42 hbox hb; have n0_ := Aside0.mk (IsS81.below qq25 hb); have n1_ := Aside0.mk (bbl_ BK158.out hb); have n2_ := Aside0.mk (KeepBut.trans qq17 (KeepBut.of_below hb g none) (.inl rfl)); have n3_ := Aside0.mk (below_step qq24 hb); have n4_ := Aside0.mk (hbox); have n5_ := Aside0.mk ((qq55 : w.heap.size ≤ gb163)); have n6_ := Aside0.mk ((Nat.le_trans HW0.out (qq55 : w.heap.size ≤ gb163) : w0.heap.size ≤ gb163)); have n7_ := Aside0.mk ((qq26 BK158.out : gb158 ≠ gb163)); have n8_ := Aside0.mk ((qq27 BK158.out : gb163 ≠ gb158)); have n9_ := Aside0.mk ((qq36 : g ≠ gb163)); have n10_ := Aside0.mk ((qq37 : gb163 ≠ g)); clear HI0; clear BK158; clear HK; clear HB; have HI0 := n0_; have BK158 := n1_; have HK := n2_; have HB := n3_; have BK163 := n4_; have GW163 := n5_; have GE163 := n6_; have NB158_163 := n7_; have NB163_158 := n8_; have NB0_163 := n9_; have NB163_0 := n10_; clear n0_ n1_ n2_ n3_ n4_ n5_ n6_ n7_ n8_ n9_ n10_; clear hb hbox hg; have hnb43 := NB163_158.out; have hnc43 := NB158_163.out; have hnb44 := NB163_0.out; have hnc44 := NB0_163.out; have hcz45_0 : w42.cell? ⟨gb163, 0, none⟩ = some (.int .i64 0) := (blk_cell BK163.out 0).trans rfl; have hcz45_1 : w42.cell? ⟨gb163, 1, none⟩ = some (.int .i64 0) := (blk_cell BK163.out 1).trans rfl; have hfz45_0 := blk_frozen BK163.out 0; have hfz45_1 := blk_frozen BK163.out 1) | ((with_reducible refine gate_callee (f := 48) rfl ?_); refine goesL_ (some 12) rfl rfl Try.func48 (by kernel_rfl) rfl #[.pointer (some ⟨g, 0, none⟩), .int .i64 40] rfl qq2 ?_; (with_reducible refine (spec_l6Rd_pick.calls k g s0_0 t162 40 t164 t165 w0 _ ?side1 ?side2 A4.out).mono ?_); (case side1 => exact qq22); (case side2 => exact qq20); rintro e w46 ⟨rfl, hi, hb, hk⟩; refine ⟨_, rfl, ?_⟩; have n0_ := Aside0.mk (KeepBut.blk hk (g' := gb158) (o := .cells #[.int .i64 0, .int .i64 0] 32 (0, 0)) (qq13 NB158_163.out BK158.out) NB158_0.out (by simp)); have n1_ := Aside0.mk (KeepBut.blk hk (g' := gb163) (o := .cells #[.int .i64 (wrap64 (t159 - 6)), .int .i64 (wrap64 (t161 - 6))] 32 (0, 0)) (qq28 BK163.out) NB163_0.out (by simp)); have n2_ := Aside0.mk (KeepBut.trans qq19 hk (.inl rfl)); have n3_ := Aside0.mk (hb); have n4_ := Aside0.mk (hi); clear BK158; clear BK163; clear HK; clear HB; clear HI0; have BK158 := n0_; have BK163 := n1_; have HK := n2_; have HB := n3_; have HI0 := n4_; clear n0_ n1_ n2_ n3_ n4_; (try clear hb); (try clear hb2); (try clear hk); (try clear hi); have hcz47_0 : w46.cell? ⟨gb163, 0, none⟩ = some (.int .i64 (wrap64 (t159 - 6))) := (blk_cell BK163.out 0).trans rfl; have hcz47_1 : w46.cell? ⟨gb163, 1, none⟩ = some (.int .i64 (wrap64 (t161 - 6))) := (blk_cell BK163.out 1).trans rfl; have hfz47_0 := blk_frozen BK163.out 0; have hfz47_1 := blk_frozen BK163.out 1; have hnb48 := NB158_0.out; have hnc48 := NB0_158.out; have hcz49_0 : w46.cell? ⟨gb158, 0, none⟩ = some (.int .i64 0) := (blk_cell BK158.out 0).trans rfl; have hcz49_1 : w46.cell? ⟨gb158, 1, none⟩ = some (.int .i64 0) := (blk_cell BK158.out 1).trans rfl; have hfz49_0 := blk_frozen BK158.out 0; have hfz49_1 := blk_frozen BK158.out 1))
      refine bodyPost_ret (results_cell_row rfl _ _ gb158 32 #[.int .i64 (wrap64 (t159 - 6)), .int .i64 (wrap64 (t161 - 6))] (0, 0) _ rfl (qq28 BK158.out) Try.underlying32 rfl (by kernel_rfl)) rfl ?_
      exact ⟨qq11, qq22, qq20, qq19⟩

end Go.Proofs.Ytgdhgncdpmalcaa.Q
