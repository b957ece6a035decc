/- Part 2 of what the proof of this law rests on: the functions of the translation as plain Lean functions with their walks, and the plain laws behind. -/
import Derived.ArgAppend
import Derived.Below
import Derived.BigQuiet
import Derived.Deep.AppendLies
import Derived.Deep.CutBlock
import Derived.Deep.DeepCutAuto
import Derived.Deep.Draws
import Derived.Deep.LoopGhost
import Derived.Deep.OwnRows
import Derived.Deep.QuietTactic
import Derived.Deep.RegionHeld3
import Derived.KernelRfl
import Derived.LaidEqlPtr
import Derived.Laws.BitsLemmas
import Derived.Laws.BytesArg
import Derived.Laws.IdiomCopy
import Derived.Laws.MakeOwn
import Derived.Laws.OwnMore
import Derived.Laws.Rows
import Derived.Laws.Slices
import Derived.Lib.AppendStr
import Derived.Lib.Builder
import Derived.Lib.ConvBytes
import Derived.LoopIn
import Derived.LoopNIn
import Derived.Maps.AppendAt
import Derived.OrdersHeld
import Derived.Outline
import Derived.OwnWalk
import Derived.OwnWalkIn
import Derived.RangeFuncBound
import Derived.RangeFuncCalls
import Derived.RangeFuncLeaves
import Derived.RangeFuncNested
import Derived.RowKit
import Derived.RowKit3
import Derived.Shelf.Abstract
import Derived.Shelf.RegionOpen
import Derived.Sort.LoopGhostIn
import Derived.Tactics
import Derived.TacticsInMore
import Derived.Test.YtgdhgncdpmalcaaProg
import Derived.WalkKit
import Derived.WideLaws
import Derived.Test.YtgdhgncdpmalcaaMFnSplitPlace1
namespace Go.Proofs.Ytgdhgncdpmalcaa.Q
open Go.RowKit Go.Proofs.YtgdhgncdpmalcaaW.PrintWords Go.Proofs.YtgdhgncdpmalcaaW.PrintLast Go.Proofs.YtgdhgncdpmalcaaW.PrintMore
/-! proofs that stand many times below, each found by its script where it is named -/
theorem pA_ {p : Prop} (h : p := by (intro w'; go_simp; with_reducible rfl)) : p := h
theorem pB_ {p : Prop} (h : p := by (simp only [Act.put, List.setIfInBounds_toArray, List.set_cons_zero, List.set_cons_succ, i64_w, i32_w]; rfl)) : p := h
theorem bbl_ {w1 w w' : World} {g : Nat} {o : Obj} (h0 : w1.heap[g]? = some o) (hb : Below w.heap.size w w') (h : w1.heap[g]? = some o → w.heap[g]? = some o := by (intro q; (with_reducible repeat (first | refine blk_drewN ?_ _ | refine blk_drew ?_ | refine blk_alloc ?_ _)); exact q)) : w'.heap[g]? = some o := blk_below (h h0) hb
theorem blt_ {w1 w : World} {g : Nat} {o : Obj} (h0 : w1.heap[g]? = some o) (h : w1.heap[g]? = some o → w.heap[g]? = some o := by (intro q; (with_reducible repeat (first | refine blk_drewN ?_ _ | refine blk_drew ?_ | refine blk_alloc ?_ _)); exact q)) : g < w.heap.size := blk_lt (h h0)
theorem qq1 {p : Prop} (h : p := by repeat (first | (with_reducible first | exact HB.out | apply below_alloc | apply pw_below_drewN | apply below_drew1) | exact HB.out)) : p := h
theorem qq2 {p c'1 : Prop} (Y'1 : c'1) (h : c'1 → p := by intro Y'1; (with_reducible repeat (first | apply Kd.R_alloc | apply Kd.R_drewN | apply Kd.R_drew)); exact Y'1) : p := h Y'1
theorem qq3 {p : Prop} (h : p := by (try simp only [List.map_toArray, List.map_cons, List.map_nil]); first | done | rfl | (simp only [List.length_drop, List.length_take]; rfl)) : p := h
theorem qq4 {p : Prop} (h : p := by repeat (first | (with_reducible first | exact HK.out | apply KeepBut.set_ | apply keep_drewN | apply keep_drew | apply keep_alloc) | exact HK.out)) : p := h
theorem qq5 {p c'1 : Prop} (Y'1 : c'1) (h : c'1 → p := by intro Y'1; (with_reducible repeat (first | apply Kd.R_alloc | apply Kd.R_drewN | apply Kd.R_drew)); exact (Kd.R_mono (Kd.R_far (p := ⟨gb722, 1, none⟩) (Kd.R_far (p := ⟨gb722, 0, none⟩) (Kd.R_mono Y'1 (fun k_ hk => (⟨hk, hk.2⟩ : _ ∧ k_ ≠ gb722))) (fun _ hk => hk.2) (.int .i64 (((l1.length : Int) % 13) - 6))) (fun _ hk => hk.2) (.int .i64 (wrap64 ((Int.tmod (wrap64 ((l1.length : Int) / 13)) 13) - 6)))) (fun _ h_ => h_.1))) : p := h Y'1
theorem qq6 {p : Prop} (h : p := by repeat (first | (with_reducible first | exact HB.out | apply below_alloc | apply pw_below_drewN | apply below_drew1 | refine below_set ?_ (IsS81.ge HI0.out)) | exact HB.out)) : p := h
theorem qq7 {p c'1 c'2 : Prop} (Y'1 : c'1) (Y'2 : c'2) (h : c'1 → c'2 → p := by intro Y'1 Y'2; repeat (first | (with_reducible first | exact Y'1 | apply below_alloc | apply pw_below_drewN | apply below_drew1 | refine below_set ?_ Y'2) | exact Y'1)) : p := h Y'1 Y'2
theorem qq8 {p : Prop} (h : p := by repeat (first | (with_reducible first | exact HI0.out | apply IsS81.alloc | apply IsS81.drewN | apply IsS81.drew | apply IsS81.set_1) | exact HI0.out)) : p := h
theorem qq9 {p c'1 c'2 c'3 c'4 : Prop} (Y'1 : c'1) (Y'2 : c'2) (Y'3 : c'3) (Y'4 : c'4) (h : c'1 → c'2 → c'3 → c'4 → p := by intro Y'1 Y'2 Y'3 Y'4; repeat (first | (with_reducible first | exact Y'1 | apply below_alloc | apply pw_below_drewN | apply below_drew1 | refine below_set ?_ Y'2 | refine below_set ?_ Y'3 | refine below_set ?_ Y'4) | exact Y'1)) : p := h Y'1 Y'2 Y'3 Y'4
theorem qq10 {p : Prop} (h : p := by first | rfl | (simp [errW_none, errW_some] <;> rfl) | (simp [*, errW_none, errW_some] <;> rfl)) : p := h
theorem qq11 {p c'1 : Prop} (Y'1 : c'1) (h : c'1 → p := by intro Y'1; repeat (first | exact (Kd.R_reads' Y'1).2.2 | (with_reducible refine Kd.C_alloc ?_ _) | (with_reducible refine Kd.C_drewN ?_ _) | (with_reducible refine Kd.C_drew ?_))) : p := h Y'1
theorem qq12 {p c'1 : Prop} (Y'1 : c'1) (h : c'1 → p := by intro Y'1; (with_reducible repeat (first | refine blk_drewN ?_ _ | refine blk_drew ?_ | refine blk_alloc ?_ _)); exact Y'1) : p := h Y'1
theorem qq13 {p c'1 c'2 c'3 : Prop} (Y'1 : c'1) (Y'2 : c'2) (Y'3 : c'3) (h : c'1 → c'2 → c'3 → p := by intro Y'1 Y'2 Y'3; repeat (first | (with_reducible first | exact Y'1 | apply below_alloc | apply pw_below_drewN | apply below_drew1 | refine below_set ?_ Y'2 | refine below_set ?_ Y'3) | exact Y'1)) : p := h Y'1 Y'2 Y'3
theorem qq14 {p : Prop} (h : p := by first | (with_reducible assumption) | assumption) : p := h
theorem qq15 {p c'1 c'2 : Prop} (Y'1 : c'1) (Y'2 : c'2) (h : c'1 → c'2 → p := by intro Y'1 Y'2; repeat (first | exact (Kd.C_below Y'1 Y'2) | (with_reducible refine Kd.C_alloc ?_ _) | (with_reducible refine Kd.C_drewN ?_ _) | (with_reducible refine Kd.C_drew ?_))) : p := h Y'1 Y'2
theorem qq16 {p c'1 : Prop} (Y'1 : c'1) (h : c'1 → p := by intro Y'1; (with_reducible repeat (first | apply Kd.Q_alloc | apply Kd.Q_drewN | apply Kd.Q_drew)); exact Y'1) : p := h Y'1
theorem qq17 {p c'1 c'2 : Prop} (Y'1 : c'1) (Y'2 : c'2) (h : c'1 → c'2 → p := by intro Y'1 Y'2; (with_reducible repeat (first | refine blk_drewN ?_ _ | refine blk_drew ?_ | refine blk_alloc ?_ _)); refine blk_far ?_ Y'1 _; (with_reducible repeat (first | refine blk_drewN ?_ _ | refine blk_drew ?_ | refine blk_alloc ?_ _)); refine blk_far ?_ Y'1 _; (with_reducible repeat (first | refine blk_drewN ?_ _ | refine blk_drew ?_ | refine blk_alloc ?_ _)); exact Y'2) : p := h Y'1 Y'2
theorem qq18 {p c'1 : Prop} (Y'1 : c'1) (h : c'1 → p := by intro Y'1; (with_reducible repeat (first | apply Kd.R_alloc | apply Kd.R_drewN | apply Kd.R_drew)); exact Kd.R_mono Y'1 (fun _ hk => hk.2)) : p := h Y'1
theorem qq19 {p : Prop} (h : p := by repeat (first | (with_reducible first | exact HB.out | apply below_alloc | apply pw_below_drewN | apply below_drew1 | refine below_set ?_ GE313.out | refine below_set ?_ GE314.out | refine below_set ?_ GE315.out | refine below_set ?_ GE321.out | refine below_set ?_ GE326.out) | exact HB.out)) : p := h
theorem qq20 {p : Prop} (h : p := by repeat (first | (with_reducible first | exact HB.out | apply below_alloc | apply pw_below_drewN | apply below_drew1 | refine below_set ?_ GE313.out | refine below_set ?_ GE314.out | refine below_set ?_ GE315.out | refine below_set ?_ GE321.out) | exact HB.out)) : p := h
theorem qq21 {p : Prop} (h : p := by (with_reducible repeat (first | refine blk_drewN ?_ _ | refine blk_drew ?_ | refine blk_alloc ?_ _)); refine blk_put (cs := #[.int .i64 (((l1.length : Int) % 13) - 6), .int .i64 0]) ?_ 1 _ rfl; (with_reducible repeat (first | refine blk_drewN ?_ _ | refine blk_drew ?_ | refine blk_alloc ?_ _)); refine blk_put (cs := #[.int .i64 0, .int .i64 0]) ?_ 0 _ rfl; (with_reducible repeat (first | refine blk_drewN ?_ _ | refine blk_drew ?_ | refine blk_alloc ?_ _)); exact BK722.out) : p := h
theorem qq22 {p : Prop} (h : p := by first | (go_simp; done) | (go_simp; rfl)) : p := h
theorem qq23 {p : Prop} (h : p := by (with_reducible repeat (first | apply Kd.Q_alloc | apply Kd.Q_drewN | apply Kd.Q_drew)); exact (Kd.Q_mono (Kd.Q_far (p := ⟨gb722, 1, none⟩) (Kd.Q_far (p := ⟨gb722, 0, none⟩) (Kd.Q_mono HO_5.out (fun k_ hk => (⟨hk, hk.2⟩ : _ ∧ k_ ≠ gb722))) (fun _ hk => hk.2) (.int .i64 (((l1.length : Int) % 13) - 6))) (fun _ hk => hk.2) (.int .i64 (wrap64 ((Int.tmod (wrap64 ((l1.length : Int) / 13)) 13) - 6)))) (fun _ h_ => h_.1))) : p := h
theorem qq24 {p : Prop} (h : p := by repeat (first | (with_reducible first | exact HK.out | apply KeepBut.set_ | apply keep_drewN | apply keep_drew | apply keep_alloc | refine keep_far ?_ GW104.out _) | exact HK.out)) : p := h
theorem qq25 {p : Prop} (h : p := by first | rfl | (simp; done) | (simp [*]; done)) : p := h
theorem qq26 {p : Prop} (h : p := by repeat (first | (with_reducible first | exact HK.out | apply KeepBut.set_ | apply keep_drewN | apply keep_drew | apply keep_alloc | refine keep_far ?_ GW104.out _ | refine keep_far ?_ GW109.out _) | exact HK.out)) : p := h
theorem qq27 {p : Prop} (h : p := by repeat (first | (with_reducible first | exact HB.out | apply below_alloc | apply pw_below_drewN | apply below_drew1 | refine below_set ?_ (IsS81.ge HI0.out) | refine below_set ?_ GE104.out | refine below_set ?_ GE109.out) | exact HB.out)) : p := h
theorem qq28 {p : Prop} (h : p := by repeat (first | (with_reducible first | exact HI0.out | apply IsS81.alloc | apply IsS81.drewN | apply IsS81.drew | apply IsS81.set_1 | refine IsS81.far ?_ NB0_104.out _ | refine IsS81.far ?_ NB0_109.out _) | exact HI0.out)) : p := h
theorem qq29 {p : Prop} (h : p := by repeat (first | (with_reducible first | exact HB.out | apply below_alloc | apply pw_below_drewN | apply below_drew1 | refine below_set ?_ (IsS81.ge HI0.out) | refine below_set ?_ GE104.out) | exact HB.out)) : p := h
theorem qq30 {p : Prop} (h : p := by repeat (first | (with_reducible first | exact HI0.out | apply IsS81.alloc | apply IsS81.drewN | apply IsS81.drew | apply IsS81.set_1 | refine IsS81.far ?_ NB0_104.out _) | exact HI0.out)) : p := h
theorem qq31 {p c'1 : Prop} (Y'1 : c'1) (h : c'1 → p := by intro Y'1; rw [hg]; exact Nat.ne_of_lt (blt_ Y'1)) : p := h Y'1
theorem qq32 {p c'1 : Prop} (Y'1 : c'1) (h : c'1 → p := by intro Y'1; rw [hg]; exact Nat.ne_of_gt (blt_ Y'1)) : p := h Y'1
theorem qq33 {p c'1 : Prop} (Y'1 : c'1) (h : c'1 → p := by intro Y'1; (with_reducible repeat (first | refine blk_drewN ?_ _ | refine blk_drew ?_ | refine blk_alloc ?_ _)); refine blk_put (cs := #[.int .i64 (wrap64 (t105 - 6)), .int .i64 0]) ?_ 1 _ rfl; (with_reducible repeat (first | refine blk_drewN ?_ _ | refine blk_drew ?_ | refine blk_alloc ?_ _)); refine blk_put (cs := #[.int .i64 0, .int .i64 0]) ?_ 0 _ rfl; (with_reducible repeat (first | refine blk_drewN ?_ _ | refine blk_drew ?_ | refine blk_alloc ?_ _)); exact Y'1) : p := h Y'1
theorem qq34 {p : Prop} (h : p := by refine (Kd.R_reads' (e := 32) (base := w.heap.size) (ok := fun k_ => ((some k_ ≠ (.slice Ao11 t699.length co11 : Value).ownBlock ∧ (some k_ ≠ (v709 : Value).ownBlock ∧ (some k_ ≠ (v714 : Value).ownBlock ∧ some k_ ≠ (v716 : Value).ownBlock))) ∧ k_ ≠ gb722)) (n := t704.length) (c := co143) ?_).2.2; exact (qq5 HO_8.out)) : p := h
theorem qq35 {p : Prop} (h : p := by rw [hg]; exact (below_size qq1)) : p := h
theorem qq36 {p c'1 : Prop} (Y'1 : c'1) (h : c'1 → p := by intro Y'1; repeat (first | exact (Kd.Q_reads' Y'1).2.2 | (with_reducible refine Kd.C_alloc ?_ _) | (with_reducible refine Kd.C_drewN ?_ _) | (with_reducible refine Kd.C_drew ?_))) : p := h Y'1
theorem qq37 {p c'1 : Prop} (Y'1 : c'1) (h : c'1 → p := by intro Y'1; (with_reducible repeat (first | apply Kd.R_alloc | apply Kd.R_drewN | apply Kd.R_drew)); exact Kd.R_mono Y'1 (fun _ hk => ⟨hk.1.1.2, ⟨hk.1.1.1, ⟨hk.1.2, hk.2⟩⟩⟩)) : p := h Y'1
theorem qq38 {p c'1 : Prop} (Y'1 : c'1) (h : c'1 → p := by intro Y'1; (with_reducible repeat (first | apply Kd.R_alloc | apply Kd.R_drewN | apply Kd.R_drew)); exact Kd.R_mono Y'1 (fun _ hk => ⟨hk.1.1.2, ⟨hk.1.2, ⟨hk.2, hk.1.1.1⟩⟩⟩)) : p := h Y'1
theorem qq39 {p : Prop} (h : p := by first | rfl | (simp [errW_none, errW_some] <;> rfl) | (simp only [← hji25]; first | rfl | (simp [errW_none, errW_some] <;> rfl)) | (simp [*, errW_none, errW_some] <;> rfl)) : p := h
theorem qq40 {p : Prop} (h : p := by first | omega | exact Nat.le_refl _) : p := h
theorem qq41 {p : Prop} (h : p := by exact Kd.C_below HR0.out (by first | exact Below.refl _ _ | exact (Below.refl _ _).alloc (Nat.le_refl _) _)) : p := h
theorem qq42 {p : Prop} (h : p := by repeat (first | exact Drawn0.refl _ | apply Drawn0.step)) : p := h
theorem qq43 {p c'1 c'2 : Prop} (Y'1 : c'1) (Y'2 : c'2) (h : c'1 → c'2 → p := by intro Y'1 Y'2; rw [hg]; exact (below_size (qq7 Y'1 Y'2))) : p := h Y'1 Y'2
theorem qq44 {p : Prop} (h : p := by (with_reducible repeat (first | apply Kd.Q_alloc | apply Kd.Q_drewN | apply Kd.Q_drew)); exact Kd.Q_mono HO703.out (fun _ hk => ⟨hk.1.1.1.2, ⟨hk.1.1.2, ⟨hk.1.2, hk.2⟩⟩⟩)) : p := h
theorem qq45 {p : Prop} (h : p := by rw [hg]; exact Nat.ne_of_lt (IsS81.lt (show IsS81 w0 _ g s0_0 t108 from by repeat (first | (with_reducible first | exact HI0.out | apply IsS81.alloc | apply IsS81.drewN | apply IsS81.drew | apply IsS81.set_1 | refine IsS81.far ?_ NB0_104.out _) | exact HI0.out)))) : p := h
theorem qq46 {p : Prop} (h : p := by rw [hg]; exact Nat.ne_of_gt (IsS81.lt (show IsS81 w0 _ g s0_0 t108 from by repeat (first | (with_reducible first | exact HI0.out | apply IsS81.alloc | apply IsS81.drewN | apply IsS81.drew | apply IsS81.set_1 | refine IsS81.far ?_ NB0_104.out _) | exact HI0.out)))) : p := h
theorem qq47 {p c'1 : Prop} (Y'1 : c'1) (h : c'1 → p := by intro Y'1; exact (fun k_ hk => Kd.fresh' (Kd.R_lt (qq2 Y'1)) k_ hk)) : p := h Y'1
theorem qq48 {p : Prop} (h : p := by exact (Reps.c2 (show Kd.M k32 _ _ _ (⟨(wrap64 (t122 - 2)), (wrap64 (t124 - 2))⟩ : S32) [.int .i64 (wrap64 (t122 - 2)), .int .i64 (wrap64 (t124 - 2))] from (k32_mkM _ _ _ (⟨(wrap64 (t122 - 2)), (wrap64 (t124 - 2))⟩ : S32) )) (Reps.c2 (show Kd.M k32 _ _ _ (⟨wrap64 ((wrap64 (t122 - 2)) + 1), (wrap64 (t124 - 2))⟩ : S32) [.int .i64 (wrap64 ((wrap64 (t122 - 2)) + 1)), .int .i64 (wrap64 (t124 - 2))] from (k32_mkM _ _ _ (⟨wrap64 ((wrap64 (t122 - 2)) + 1), (wrap64 (t124 - 2))⟩ : S32) )) (Reps.none _ _)))) : p := h
theorem qq49 {p : Prop} (h : p := by rw [hg]; exact (below_size (by repeat (first | (with_reducible first | exact HBW.out | apply below_alloc | apply pw_below_drewN | apply below_drew1) | exact HBW.out)))) : p := h
theorem qq50 {p : Prop} (h : p := by (with_reducible repeat (first | refine blk_drewN ?_ _ | refine blk_drew ?_ | refine blk_alloc ?_ _)); refine blk_put (cs := #[.int .i64 ((rd_T32 l0 x15_2).f0), .int .i64 0]) ?_ 1 _ rfl; (with_reducible repeat (first | refine blk_drewN ?_ _ | refine blk_drew ?_ | refine blk_alloc ?_ _)); refine blk_put (cs := #[.int .i64 0, .int .i64 0]) ?_ 0 _ rfl; (with_reducible repeat (first | refine blk_drewN ?_ _ | refine blk_drew ?_ | refine blk_alloc ?_ _)); exact BK217.out) : p := h
theorem qq51 {p : Prop} (h : p := by rw [hg]; exact Nat.ne_of_lt (IsS81.lt (show IsS81 w0 _ g s0_0 s0_1 from by repeat (first | (with_reducible first | exact HI0.out | apply IsS81.alloc | apply IsS81.drewN | apply IsS81.drew | apply IsS81.set_1) | exact HI0.out)))) : p := h
theorem qq52 {p : Prop} (h : p := by rw [hg]; exact Nat.ne_of_gt (IsS81.lt (show IsS81 w0 _ g s0_0 s0_1 from by repeat (first | (with_reducible first | exact HI0.out | apply IsS81.alloc | apply IsS81.drewN | apply IsS81.drew | apply IsS81.set_1) | exact HI0.out)))) : p := h
theorem qq53 {p : Prop} (h : p := by repeat (first | exact HR0.out | (with_reducible refine Kd.C_alloc ?_ _) | (with_reducible refine Kd.C_drewN ?_ _) | (with_reducible refine Kd.C_drew ?_))) : p := h
theorem qq54 {p c'1 c'2 c'3 : Prop} (Y'1 : c'1) (Y'2 : c'2) (Y'3 : c'3) (h : c'1 → c'2 → c'3 → p := by intro Y'1 Y'2 Y'3; rw [hg]; exact (below_size (qq13 Y'1 Y'2 Y'3))) : p := h Y'1 Y'2 Y'3
theorem qq55 {p : Prop} (h : p := by repeat (first | (with_reducible first | exact HB.out | apply below_alloc | apply pw_below_drewN | apply below_drew1 | refine below_set ?_ (IsS81.ge HI642.out)) | exact HB.out)) : p := h
theorem qq56 {p : Prop} (h : p := by rw [← hVS]; exact (show (4 : Tmp) ∉ [(31 : Tmp), (32 : Tmp), (33 : Tmp), (34 : Tmp), (35 : Tmp), (36 : Tmp), (37 : Tmp), (38 : Tmp), (39 : Tmp), (40 : Tmp), (41 : Tmp), (42 : Tmp), (43 : Tmp), (44 : Tmp), (45 : Tmp), (46 : Tmp), (47 : Tmp), (48 : Tmp), (49 : Tmp), (50 : Tmp), (51 : Tmp), (52 : Tmp), (8 : Tmp)] by decide)) : p := h
theorem qq57 {p : Prop} (h : p := by rw [← hVS]; exact (show (5 : Tmp) ∉ [(31 : Tmp), (32 : Tmp), (33 : Tmp), (34 : Tmp), (35 : Tmp), (36 : Tmp), (37 : Tmp), (38 : Tmp), (39 : Tmp), (40 : Tmp), (41 : Tmp), (42 : Tmp), (43 : Tmp), (44 : Tmp), (45 : Tmp), (46 : Tmp), (47 : Tmp), (48 : Tmp), (49 : Tmp), (50 : Tmp), (51 : Tmp), (52 : Tmp), (8 : Tmp)] by decide)) : p := h
theorem qq58 {p : Prop} (h : p := by rw [← hVS]; exact (show (6 : Tmp) ∉ [(31 : Tmp), (32 : Tmp), (33 : Tmp), (34 : Tmp), (35 : Tmp), (36 : Tmp), (37 : Tmp), (38 : Tmp), (39 : Tmp), (40 : Tmp), (41 : Tmp), (42 : Tmp), (43 : Tmp), (44 : Tmp), (45 : Tmp), (46 : Tmp), (47 : Tmp), (48 : Tmp), (49 : Tmp), (50 : Tmp), (51 : Tmp), (52 : Tmp), (8 : Tmp)] by decide)) : p := h
theorem qq59 {p : Prop} (h : p := by rw [← hVS]; exact (show (7 : Tmp) ∉ [(31 : Tmp), (32 : Tmp), (33 : Tmp), (34 : Tmp), (35 : Tmp), (36 : Tmp), (37 : Tmp), (38 : Tmp), (39 : Tmp), (40 : Tmp), (41 : Tmp), (42 : Tmp), (43 : Tmp), (44 : Tmp), (45 : Tmp), (46 : Tmp), (47 : Tmp), (48 : Tmp), (49 : Tmp), (50 : Tmp), (51 : Tmp), (52 : Tmp), (8 : Tmp)] by decide)) : p := h
theorem qq60 {p : Prop} (h : p := by have := hb.size; simp at this; omega) : p := h
theorem qq61 {p : Prop} (h : p := by repeat (first | exact (by repeat (first | (with_reducible exact HR141.out) | (with_reducible refine Kd.C_alloc ?_ _) | (with_reducible refine Kd.C_drewN ?_ _) | (with_reducible refine Kd.C_drew ?_) | exact HR141.out)) | (with_reducible refine Kd.C_alloc ?_ _) | (with_reducible refine Kd.C_drewN ?_ _) | (with_reducible refine Kd.C_drew ?_))) : p := h
theorem qq62 {p c'1 : Prop} (Y'1 : c'1) (h : c'1 → p := by intro Y'1; exact (Kd.R_reads' Y'1).2.1) : p := h Y'1
theorem qq63 {p : Prop} (h : p := by rw [hg]; exact (keep_size (w := w) (g := g) (row := none) qq24)) : p := h
theorem qq64 {p : Prop} (h : p := by rw [hg]; exact (keep_size (w := w) (g := g) (row := none) qq4)) : p := h
theorem qq65 {p : Prop} (h : p := by rw [pairs_bad hi hj hj1.2.1 (HBAD)]; rfl) : p := h
theorem qq66 {p : Prop} (h : p := by exact Kd.C_below HR0.out ((Below.refl _ _).alloc (Nat.le_refl _) _)) : p := h
theorem qq67 {p : Prop} (h : p := by simp only [putAll, Act.put, List.setIfInBounds_toArray, List.set_cons_zero, List.set_cons_succ]) : p := h
theorem qq68 {p c'1 : Prop} (Y'1 : c'1) (h : c'1 → p := by intro Y'1; (with_reducible repeat (first | apply Kd.R_alloc | apply Kd.R_drewN | apply Kd.R_drew)); exact Kd.R_mono Y'1 (fun _ hk => trivial)) : p := h Y'1
theorem qq69 {p c'1 : Prop} (Y'1 : c'1) (h : c'1 → p := by intro Y'1; rw [Y'1, List.length_drop, List.length_take] <;> omega) : p := h Y'1
theorem qq70 {p : Prop} (h : p := by have := hS.2.2.2; dsimp only; omega) : p := h
theorem qq71 {p : Prop} (h : p := by (try simp only [List.map_toArray, List.map_cons, List.map_nil]); first | done | (simp only [hji8, hji9]; rfl) | rfl | (simp only [List.length_drop, List.length_take]; rfl)) : p := h
theorem qq72 {p : Prop} (h : p := by exact (keep_size (w := w) (g := g) (row := none) qq4)) : p := h
theorem qq73 {p c'1 : Prop} (Y'1 : c'1) (h : c'1 → p := by intro Y'1; rw [Y'1, List.length_drop] <;> omega) : p := h Y'1
theorem qq74 {p : Prop} (h : p := by rw [hg]; exact (below_size qq20)) : p := h
theorem qq75 {p : Prop} (h : p := by have := hb2.size; simp at this; omega) : p := h
theorem qq76 {p : Prop} (h : p := by have := HJ2.out; first | omega | exact Nat.le_refl _) : p := h
theorem qq77 {p : Prop} (h : p := by rw [← hVS]; exact (show (7 : Tmp) ∉ [(62 : Tmp), (63 : Tmp), (64 : Tmp), (65 : Tmp), (66 : Tmp), (67 : Tmp), (68 : Tmp), (2 : Tmp)] by decide)) : p := h
theorem qq78 {p : Prop} (h : p := by (with_reducible repeat (first | apply Kd.R_alloc | apply Kd.R_drewN | apply Kd.R_drew)); exact Kd.R_mono HO_3.out (fun _ hk => ⟨trivial, hk⟩)) : p := h
theorem qq79 {p : Prop} (h : p := by rw [← hV]; exact ⟨_, _, rfl, fun h => absurd h (by decide), fun h => absurd h (by decide), fun _ h => absurd h (by decide), fun _ => rfl⟩) : p := h
theorem qq80 {p : Prop} (h : p := by rwa [List.getElem?_set_ne (by decide)] at h) : p := h
theorem qq81 {p : Prop} (h : p := by exact (Kd.Q_reads' HO_5.out).2.1) : p := h
theorem qq82 {p c'1 : Prop} (Y'1 : c'1) (h : c'1 → p := by intro Y'1; rw [hg]; exact Nat.ne_of_lt (blk_lt Y'1)) : p := h Y'1
theorem qq83 {p : Prop} (h : p := by exact qq15 HR0.out HB.out) : p := h
theorem qq84 {p : Prop} (h : p := by have := HB.out.size; simp; omega) : p := h
theorem qq85 {p : Prop} (h : p := by rw [hg]; exact below_size HB.out) : p := h
theorem qq86 {p : Prop} (h : p := by simp [results, Try.results76, go_sem, hcD]; rfl) : p := h
theorem qq87 {p : Prop} (h : p := by exact (fun _ _ => trivial)) : p := h
theorem qq88 {p : Prop} (h : p := by have := keep L u u' WW.drew 4 (by decide) hVL; rw [← hVS] at this ⊢; exact this) : p := h
theorem qq89 {p : Prop} (h : p := by rw [Ny563.out, List.length_take]; omega) : p := h
theorem qq90 {p : Prop} (h : p := by have := keep L u u' w' 0 (by decide) hVL; rw [← hVS] at this ⊢; exact this) : p := h
theorem qq91 {p : Prop} (h : p := by have := keep L u u' w' 1 (by decide) hVL; rw [← hVS] at this ⊢; exact this) : p := h
theorem qq92 {p : Prop} (h : p := by have := keep L u u' w' 2 (by decide) hVL; rw [← hVS] at this ⊢; exact this) : p := h
theorem qq93 {p : Prop} (h : p := by have := keep L u u' w' 3 (by decide) hVL; rw [← hVS] at this ⊢; exact this) : p := h
theorem qq94 {p : Prop} (h : p := by rw [Ny676.out, List.length_take]; omega) : p := h
end Go.Proofs.Ytgdhgncdpmalcaa.Q
namespace Go.Proofs.Ytgdhgncdpmalcaa.Q
open Go.RowKit Go.Proofs.YtgdhgncdpmalcaaW.PrintWords Go.Proofs.YtgdhgncdpmalcaaW.PrintLast Go.Proofs.YtgdhgncdpmalcaaW.PrintMore
attribute [local go_sem] max2_int min2_int max_two min_two max_three min_three max_four min_four
set_option linter.unusedVariables false
set_option linter.unusedSimpArgs false

def errW : Option Int → Value
 | none => .nilIface
 | some c => .iface 0 (.int .i64 c)
theorem errW_none : errW none = .nilIface := rfl
theorem errW_some (c : Int) : errW (some c) = .iface 0 (.int .i64 c) := rfl

theorem info5 : (Try.prog.info? 5).map (fun i => (i.zero, i.size, i.bytes)) = some (some (.int .u8 0), 1, 1) := by kernel_rfl
theorem info32 : (Try.prog.info? 32).map (fun i => (i.zero, i.size, i.bytes)) = some (some (.agg #[(.int .i64 0), (.int .i64 0)]), 2, 16) := by kernel_rfl
-- the values' own types
/-! #### struct type 32 -/
structure S32 where
 f0 : Int
 f1 : Int
def z32 : S32 := ⟨(0 : Int), (0 : Int)⟩
def k32 : Kd S32 := Kd.iso (Kd.pair (Kd.int .i64) (Kd.int .i64)) (fun x : S32 => (x.f0, x.f1))
theorem k32_open {w : World} {x : S32} {cs : List Value} (h : k32.K w x cs) : cs = [.int .i64 x.f0, .int .i64 x.f1] := by
 obtain ⟨_, _, rfl, rfl, rfl⟩ := h
 exact rfl
theorem k32_mkM (w : World) (base : Nat) (ok : Nat → Prop) (x : S32)  : k32.M w base ok x [.int .i64 x.f0, .int .i64 x.f1] := ⟨[.int .i64 x.f0], [.int .i64 x.f1], rfl, rfl, rfl⟩
def rd_T32 (xs : List S32) (i : Int) : S32 := xs.getD i.toNat z32
theorem at_T32 {w : World} {A : Option Addr} {n : Nat} {xs : List S32} (h : Kd.C k32 w A n xs) (i : Int) (h0 : 0 ≤ i) (h1 : i < n) : ∃ ad , A = some ad ∧ w.cell? (ad.add (i.toNat * 2)) = some (.int .i64 (rd_T32 xs i).f0) ∧ w.cell? ⟨(ad.add (i.toNat * 2)).block, (ad.add (i.toNat * 2)).off + 1, none⟩ = some (.int .i64 (rd_T32 xs i).f1) := by
 obtain ⟨ad, c, e, _, hK, hc0⟩ := Kd.C_get h z32 i h0 h1
 have hc : ∀ j u, c[j]? = some u → w.cell? (ad.add (i.toNat * 2 + j)) = some u := hc0
 obtain rfl := k32_open hK
 exact ⟨ad, e, hc 0 _ rfl, by rw [← add_field _ _ 1 (by omega)]; exact hc 1 _ rfl⟩

end Go.Proofs.Ytgdhgncdpmalcaa.Q
namespace Go.Proofs.Ytgdhgncdpmalcaa.Q
open Go.RowKit Go.Proofs.YtgdhgncdpmalcaaW.PrintWords Go.Proofs.YtgdhgncdpmalcaaW.PrintLast Go.Proofs.YtgdhgncdpmalcaaW.PrintMore
attribute [local go_sem] max2_int min2_int max_two min_two max_three min_three max_four min_four
set_option linter.unusedVariables false
set_option linter.unusedSimpArgs false

theorem eqA32 (d : Nat) (w : World) (x0 y0 : Int) (x1 y1 : Int) :
  (Op.equalIn (d + 2) 32 (.agg #[.int .i64 x0, .int .i64 x1]) (.agg #[.int .i64 y0, .int .i64 y1])).run Try.prog w = .ok (x0 == y0 && (x1 == y1)) w := by
 refine eqA_of Try.underlying32 (by kernel_rfl) ?_
 refine eqf_cons (by rfl) (by go_simp; rfl) (by go_simp; rfl) (by go_simp) ?_
 exact eqf_last (by rfl) (by go_simp; rfl) (by go_simp; rfl) (by go_simp)
end Go.Proofs.Ytgdhgncdpmalcaa.Q
namespace Go.Proofs.Ytgdhgncdpmalcaa.Q
open Go.RowKit Go.Proofs.YtgdhgncdpmalcaaW.PrintWords Go.Proofs.YtgdhgncdpmalcaaW.PrintLast Go.Proofs.YtgdhgncdpmalcaaW.PrintMore
attribute [local go_sem] max2_int min2_int max_two min_two max_three min_three max_four min_four
set_option linter.unusedVariables false
set_option linter.unusedSimpArgs false

attribute [local go_sem high] eqA32
/-! ### spec_l2Step: function 77 -/
def spec_l2Step.f (a0_0 : Int) (a0_1 : Int) (a1_0 : Int) (a1_1 : Int) : Option (Int × Int) := some (wrap64 (a1_0 - a0_0), wrap64 (a1_1 - a0_1))
set_option maxHeartbeats 8000000 in
set_option maxRecDepth 100000 in
theorem spec_l2Step.calls (a0_0 : Int) (a0_1 : Int) (a1_0 : Int) (a1_1 : Int) (r1 : Int) (r2 : Int) (w : World) (h : spec_l2Step.f a0_0 a0_1 a1_0 a1_1 = some (r1, r2)) :
  Calls Try.prog 77 #[.agg #[.int .i64 a0_0, .int .i64 a0_1], .agg #[.int .i64 a1_0, .int .i64 a1_1]] w fun e w' => e = .returned (.agg #[.int .i64 r1, .int .i64 r2]) ∧ Below w.heap.size w w' := by
 have hu32 := Try.underlying32
 have HB := Aside0.mk (Below.refl w.heap.size w)
 have H : (some (wrap64 (a1_0 - a0_0), wrap64 (a1_1 - a0_1))) = some (r1, r2) := h
 clear h
 simp only [Option.some.injEq, Prod.mk.injEq] at H
 obtain ⟨rfl, rfl⟩ := H
 go_enter Try.func77, Try.ntmps77
 go_wp2_with (first | ((with_reducible refine gate_dst (N := 2) rfl ?_); refine box_event ?hg (N := 2) ?hd (cs := #[.int .i64 a0_0, .int .i64 a0_1]) (t := 32) ?hr ?_; (case hd => rfl); (case hg => rfl); (case hr => exact qq22); intro gb340 hg w3 hbox hb; have n0_ := Aside0.mk (below_step qq1 hb); have n1_ := Aside0.mk (hbox); have n2_ := Aside0.mk ((qq35 : w.heap.size ≤ gb340)); have n3_ := Aside0.mk ((qq35 : w.heap.size ≤ gb340)); clear HB; have HB := n0_; have BK340 := n1_; have GW340 := n2_; have GE340 := n3_; clear n0_ n1_ n2_ n3_; clear hb hbox hg) | ((with_reducible refine gate_dst (N := 3) rfl ?_); refine box_event ?hg (N := 3) ?hd (cs := #[.int .i64 a1_0, .int .i64 a1_1]) (t := 32) ?hr ?_; (case hd => rfl); (case hg => rfl); (case hr => exact qq22); intro gb341 hg w4 hbox hb; have n0_ := Aside0.mk (bbl_ BK340.out hb); have n1_ := Aside0.mk (below_step (qq7 HB.out GE340.out) hb); have n2_ := Aside0.mk (hbox); have n3_ := Aside0.mk ((qq43 HB.out GE340.out : w.heap.size ≤ gb341)); have n4_ := Aside0.mk ((qq43 HB.out GE340.out : w.heap.size ≤ gb341)); have n5_ := Aside0.mk ((qq31 BK340.out : gb340 ≠ gb341)); have n6_ := Aside0.mk ((qq32 BK340.out : gb341 ≠ gb340)); clear BK340; clear HB; have BK340 := n0_; have HB := n1_; have BK341 := n2_; have GW341 := n3_; have GE341 := n4_; have NB340_341 := n5_; have NB341_340 := n6_; clear n0_ n1_ n2_ n3_ n4_ n5_ n6_; clear hb hbox hg) | ((with_reducible refine gate_dst (N := 4) rfl ?_); refine box_event ?hg (N := 4) ?hd (cs := #[.int .i64 0, .int .i64 0]) (t := 32) ?hr ?_; (case hd => rfl); (case hg => rfl); (case hr => exact qq22); intro gb342 hg w5 hbox hb; have n0_ := Aside0.mk (bbl_ BK340.out hb); have n1_ := Aside0.mk (bbl_ BK341.out hb); have n2_ := Aside0.mk (below_step (qq13 HB.out GE340.out GE341.out) hb); have n3_ := Aside0.mk (hbox); have n4_ := Aside0.mk ((qq54 HB.out GE340.out GE341.out : w.heap.size ≤ gb342)); have n5_ := Aside0.mk ((qq54 HB.out GE340.out GE341.out : w.heap.size ≤ gb342)); have n6_ := Aside0.mk ((qq31 BK340.out : gb340 ≠ gb342)); have n7_ := Aside0.mk ((qq32 BK340.out : gb342 ≠ gb340)); have n8_ := Aside0.mk ((qq31 BK341.out : gb341 ≠ gb342)); have n9_ := Aside0.mk ((qq32 BK341.out : gb342 ≠ gb341)); clear BK340; clear BK341; clear HB; have BK340 := n0_; have BK341 := n1_; have HB := n2_; have BK342 := n3_; have GW342 := n4_; have GE342 := n5_; have NB340_342 := n6_; have NB342_340 := n7_; have NB341_342 := n8_; have NB342_341 := n9_; clear n0_ n1_ n2_ n3_ n4_ n5_ n6_ n7_ n8_ n9_; clear hb hbox hg; have hnb6 := NB341_340.out; have hnc6 := NB340_341.out; have hnb7 := NB341_342.out; have hnc7 := NB342_341.out; have hcz8_0 : w5.cell? ⟨gb341, 0, none⟩ = some (.int .i64 a1_0) := (blk_cell BK341.out 0).trans rfl; have hcz8_1 : w5.cell? ⟨gb341, 1, none⟩ = some (.int .i64 a1_1) := (blk_cell BK341.out 1).trans rfl; have hfz8_0 := blk_frozen BK341.out 0; have hfz8_1 := blk_frozen BK341.out 1; have hnb9 := NB340_342.out; have hnc9 := NB342_340.out; have hcz10_0 : w5.cell? ⟨gb340, 0, none⟩ = some (.int .i64 a0_0) := (blk_cell BK340.out 0).trans rfl; have hcz10_1 : w5.cell? ⟨gb340, 1, none⟩ = some (.int .i64 a0_1) := (blk_cell BK340.out 1).trans rfl; have hfz10_0 := blk_frozen BK340.out 0; have hfz10_1 := blk_frozen BK340.out 1; have hcz11_0 : w5.cell? ⟨gb342, 0, none⟩ = some (.int .i64 0) := (blk_cell BK342.out 0).trans rfl; have hcz11_1 : w5.cell? ⟨gb342, 1, none⟩ = some (.int .i64 0) := (blk_cell BK342.out 1).trans rfl; have hfz11_0 := blk_frozen BK342.out 0; have hfz11_1 := blk_frozen BK342.out 1))
 refine bodyPost_ret (results_cell_row rfl _ _ gb342 32 #[.int .i64 (wrap64 (a1_0 - a0_0)), .int .i64 (wrap64 (a1_1 - a0_1))] (0, 0) _ rfl (by (with_reducible repeat (first | refine blk_drewN ?_ _ | refine blk_drew ?_ | refine blk_alloc ?_ _)); refine blk_put (cs := #[.int .i64 (wrap64 (a1_0 - a0_0)), .int .i64 0]) ?_ 1 _ rfl; (with_reducible repeat (first | refine blk_drewN ?_ _ | refine blk_drew ?_ | refine blk_alloc ?_ _)); refine blk_put (cs := #[.int .i64 0, .int .i64 0]) ?_ 0 _ rfl; (with_reducible repeat (first | refine blk_drewN ?_ _ | refine blk_drew ?_ | refine blk_alloc ?_ _)); exact BK342.out) Try.underlying32 rfl (by kernel_rfl)) rfl ?_
 exact ⟨qq10, qq9 HB.out GE340.out GE341.out GE342.out⟩

/-! ### spec_l1Sign: function 63 -/
def spec_l1Sign.f (a0 : Int) : Option (Int) := some (mx (-1) (mn 1 a0))
set_option maxHeartbeats 8000000 in
set_option maxRecDepth 100000 in
theorem spec_l1Sign.calls (a0 : Int) (r : Int) (w : World) (h : spec_l1Sign.f a0 = some r) :
  Calls Try.prog 63 #[.int .i64 a0] w fun e w' => e = .returned (.int .i64 r) ∧ Below w.heap.size w w' := by
 have HB := Aside0.mk (Below.refl w.heap.size w)
 have H : (some (mx (-1) (mn 1 a0))) = some r := h
 clear h
 obtain ⟨ji2, hji2⟩ : ∃ j_ : Int, (mn 1 a0) = j_ := ⟨_, rfl⟩
 replace H : (some (mx (-1) (ji2))) = some r := by first | (rw [hji2] at H; exact H) | (simp only [hji2] at H ⊢; exact H)
 (try (have hji2h : ji2 ≤ 1 := by (rw [← hji2]; unfold mn; (repeat' split) <;> omega)))
 (try (have hji2g : ji2 ≤ 64 := by omega))
 have hji2_ : (if a0 < 1 then a0 else 1) = ji2 := hji2
 obtain ⟨ji3, hji3⟩ : ∃ j_ : Int, (mx (-1) (ji2)) = j_ := ⟨_, rfl⟩
 replace H : (some ji3) = some r := by first | (rw [hji3] at H; exact H) | (simp only [hji3] at H ⊢; exact H)
 have hji3_ : (if (-1) < (ji2) then (ji2) else (-1)) = ji3 := hji3
 obtain rfl := Option.some.inj H
 go_enter Try.func63, Try.ntmps63
 go_wp2
 go_ret
 exact ⟨by first | rfl | (simp [errW_none, errW_some] <;> rfl) | (simp only [← hji2, ← hji3]; first | rfl | (simp [errW_none, errW_some] <;> rfl)) | (simp [*, errW_none, errW_some] <;> rfl), qq1⟩

/-! ### laws_samePoints: function 36 -/
def laws_samePoints.l0 : Nat → List (S32) → List (S32) → Int → Option (Bool)
 | 0, _, _, _ => none
 | k + 1, x0, x1, x5 => if x5 < (x0.length : Int) then (if 0 ≤ x5 then (if x5 < (x1.length : Int) then (if (!(((rd_T32 x0 x5).f0) == ((rd_T32 x1 x5).f0)) || (!(((rd_T32 x0 x5).f1) == ((rd_T32 x1 x5).f1)))) = true then (some false) else (laws_samePoints.l0 k x0 x1 (wrap64 (x5 + 1)))) else (none)) else (none)) else (some true)
def laws_samePoints.f (k : Nat) (l0 : List (S32)) (l1 : List (S32)) : Option (Bool) := if (l0.length : Int) = (l1.length : Int) then (laws_samePoints.l0 k l0 l1 0) else (some false)
set_option maxHeartbeats 8000000 in
set_option maxRecDepth 100000 in
theorem laws_samePoints.calls (k : Nat) (A0 : Option Addr) (c0 : Nat) (l0 : List (S32)) (A1 : Option Addr) (c1 : Nat) (l1 : List (S32)) (r : Bool) (w : World) (hr0 : Kd.C k32 w A0 l0.length l0) (hc0 : l0.length ≤ c0) (hr1 : Kd.C k32 w A1 l1.length l1) (hc1 : l1.length ≤ c1) (h : laws_samePoints.f k l0 l1 = some r) :
  Calls Try.prog 36 #[.slice A0 l0.length c0, .slice A1 l1.length c1] w fun e w' => e = .returned (.bool r) ∧ Drawn0 w w' := by
 have hu32 := Try.underlying32
 have HR0 := Aside0.mk hr0
 have HC0 := Aside0.mk hc0
 clear hr0 hc0
 have HR1 := Aside0.mk hr1
 have HC1 := Aside0.mk hc1
 clear hr1 hc1
 have H : (if (l0.length : Int) = (l1.length : Int) then (laws_samePoints.l0 k l0 l1 0) else (some false)) = some r := h
 clear h
 by_cases c3 : (l0.length : Int) = (l1.length : Int)
 ·rw [if_pos c3] at H
  have c3b0 : ((l0.length : Int) == (l1.length : Int)) = true := beq_iff_eq.mpr c3
  have c3b1 : ((l0.length : Int) != (l1.length : Int)) = false := bne_eq_false_iff_eq.mpr c3
  have c3b2 : (l0.length == l1.length) = true := by first | simpa using c3 | (simp at c3 ⊢; omega)
  clear c3
  have H' := Aside0.mk H
  clear H
  go_enter Try.func36, Try.ntmps36
  go_wp2
  repeat (go_quiet (fail); try go_wp2)
  go_loopg [5] k (fun kq v5 w' => ∃ (x5_1 : Int), v5 = .int .i64 x5_1 ∧ Aside0 (laws_samePoints.l0 kq l0 l1 x5_1 = some r) ∧ Aside0 (kq ≤ k) ∧ Drawn0 w w')
  case atStart => exact ⟨(0), qq25, H', ⟨Nat.le_refl _⟩, qq42⟩
  case round =>
   clear H'
   try clear c1
   try clear p2
   try clear c3
   try clear c3b0
   try clear c3b1
   try clear c3b2
   obtain ⟨x5_1, rfl, HA, HK1, ⟨m1, rfl⟩⟩ := hrel
   cases gk with
   | zero => exact absurd HA.out (by simp [laws_samePoints.l0])
   | succ k1 =>
    have H := HA.out
    clear HA
    simp only [laws_samePoints.l0] at H
    by_cases c4 : x5_1 < (l0.length : Int)
    ·rw [if_pos c4] at H
     have c4b0 : decide (x5_1 < (l0.length : Int)) = true := decide_eq_true c4
     clear c4
     by_cases c5 : 0 ≤ x5_1
     ·rw [if_pos c5] at H
      have c5b0 : decide (0 ≤ x5_1) = true := decide_eq_true c5
      clear c5
      by_cases c6 : x5_1 < (l1.length : Int)
      ·rw [if_pos c6] at H
       have c6b0 : decide (x5_1 < (l1.length : Int)) = true := decide_eq_true c6
       clear c6
       by_cases c7 : (!(((rd_T32 l0 x5_1).f0) == ((rd_T32 l1 x5_1).f0)) || (!(((rd_T32 l0 x5_1).f1) == ((rd_T32 l1 x5_1).f1)))) = true
       ·rw [if_pos c7] at H
        have c7b0 : (!(((rd_T32 l0 x5_1).f0) == ((rd_T32 l1 x5_1).f0)) || (!(((rd_T32 l0 x5_1).f1) == ((rd_T32 l1 x5_1).f1)))) = true := c7
        clear c7
        obtain rfl := Option.some.inj H
        have p697 : 0 ≤ (x5_1 : Int) := of_decide_eq_true qq14
        have q697 : x5_1 < (l0.length : Int) := of_decide_eq_true qq14
        obtain ⟨ad697, e697, hx697_0, hx697_1⟩ := at_T32 HR0.out x5_1 p697 q697
        cases e697
        replace p697 := eq_true p697
        replace q697 := eq_true q697
        have p698 : 0 ≤ (x5_1 : Int) := of_decide_eq_true qq14
        have q698 : x5_1 < (l1.length : Int) := of_decide_eq_true qq14
        obtain ⟨ad698, e698, hx698_0, hx698_1⟩ := at_T32 HR1.out x5_1 p698 q698
        cases e698
        replace p698 := eq_true p698
        replace q698 := eq_true q698
        go_wp2
        repeat (go_quiet (fail); try go_wp2)
        go_ret
        exact ⟨qq25, qq42⟩
       ·rw [if_neg c7] at H
        have c7b0 : (!(((rd_T32 l0 x5_1).f0) == ((rd_T32 l1 x5_1).f0)) || (!(((rd_T32 l0 x5_1).f1) == ((rd_T32 l1 x5_1).f1)))) = false := by simpa using c7
        clear c7
        have H' := Aside0.mk H
        clear H
        have p697 : 0 ≤ (x5_1 : Int) := of_decide_eq_true qq14
        have q697 : x5_1 < (l0.length : Int) := of_decide_eq_true qq14
        obtain ⟨ad697, e697, hx697_0, hx697_1⟩ := at_T32 HR0.out x5_1 p697 q697
        cases e697
        replace p697 := eq_true p697
        replace q697 := eq_true q697
        have p698 : 0 ≤ (x5_1 : Int) := of_decide_eq_true qq14
        have q698 : x5_1 < (l1.length : Int) := of_decide_eq_true qq14
        obtain ⟨ad698, e698, hx698_0, hx698_1⟩ := at_T32 HR1.out x5_1 p698 q698
        cases e698
        replace p698 := eq_true p698
        replace q698 := eq_true q698
        go_wp2
        repeat (go_quiet (fail); try go_wp2)
        go_roundg k1
        case measure => have := HK1.out; omega
        case rel => exact ⟨(wrap64 (x5_1 + 1)), qq25, H', ⟨by have := HK1.out; omega⟩, qq42⟩
      ·rw [if_neg c6] at H
       exact absurd H (by simp)
     ·rw [if_neg c5] at H
      exact absurd H (by simp)
    ·rw [if_neg c4] at H
     have c4b0 : decide (x5_1 < (l0.length : Int)) = false := decide_eq_false c4
     clear c4
     obtain rfl := Option.some.inj H
     go_wp2
     repeat (go_quiet (fail); try go_wp2)
     go_ret
     exact ⟨qq25, qq42⟩
 ·rw [if_neg c3] at H
  have c3b0 : ((l0.length : Int) == (l1.length : Int)) = false := beq_eq_false_iff_ne.mpr c3
  have c3b1 : ((l0.length : Int) != (l1.length : Int)) = true := bne_iff_ne.mpr c3
  have c3b2 : (l0.length == l1.length) = false := by first | simpa using c3 | (simp at c3 ⊢; omega)
  obtain rfl := Option.some.inj H
  go_enter Try.func36, Try.ntmps36
  go_wp2
  repeat (go_quiet (fail); try go_wp2)
  go_ret
  exact ⟨qq25, qq42⟩

/-! ### impl_absInt: function 68 -/
/-! ### impl_pair_point: function 90 -/
/-! ### impl_gcdInt: function 91 -/
/-! ### impl_pair_gcd: function 87 -/
/-! ### spec_l1Size: function 71 -/
end Go.Proofs.Ytgdhgncdpmalcaa.Q
namespace Go.Proofs.Ytgdhgncdpmalcaa.Q
open Go.RowKit Go.Proofs.YtgdhgncdpmalcaaW.PrintWords Go.Proofs.YtgdhgncdpmalcaaW.PrintLast Go.Proofs.YtgdhgncdpmalcaaW.PrintMore
attribute [local go_sem] max2_int min2_int max_two min_two max_three min_three max_four min_four
set_option linter.unusedVariables false
set_option linter.unusedSimpArgs false

/-! ### spec_l6In: function 67 -/
def spec_l6In.f (a0 : Int) (a1 : Int) (a2 : Int) : Option (Bool) := if a0 ≥ a1 then (some (decide (a0 ≤ a2))) else (some false)
set_option maxHeartbeats 8000000 in
set_option maxRecDepth 100000 in
theorem spec_l6In.calls (a0 : Int) (a1 : Int) (a2 : Int) (r : Bool) (w : World) (h : spec_l6In.f a0 a1 a2 = some r) :
  Calls Try.prog 67 #[.int .i64 a0, .int .i64 a1, .int .i64 a2] w fun e w' => e = .returned (.bool r) ∧ Drawn0 w w' := by
 have H : (if a0 ≥ a1 then (some (decide (a0 ≤ a2))) else (some false)) = some r := h
 clear h
 by_cases c4 : a0 ≥ a1
 ·rw [if_pos c4] at H
  have c4b0 : decide (a1 ≤ a0) = true := decide_eq_true c4
  clear c4
  obtain rfl := Option.some.inj H
  go_enter Try.func67, Try.ntmps67
  go_wp2
  go_ret
  exact ⟨qq25, qq42⟩
 ·rw [if_neg c4] at H
  have c4b0 : decide (a1 ≤ a0) = false := decide_eq_false c4
  clear c4
  obtain rfl := Option.some.inj H
  go_enter Try.func67, Try.ntmps67
  go_wp2
  go_ret
  exact ⟨qq25, qq42⟩

/-! ### spec_PointValid: function 57 -/
def spec_PointValid.f (a0_0 : Int) (a0_1 : Int) : Option (Bool) := (spec_l6In.f a0_0 (-10000) 10000).bind fun t145 => (if t145 = true then ((spec_l6In.f a0_1 (-10000) 10000).bind fun t146 => (some t146)) else (some false))
set_option maxHeartbeats 8000000 in
set_option maxRecDepth 100000 in
theorem spec_PointValid.calls (a0_0 : Int) (a0_1 : Int) (r : Bool) (w : World) (h : spec_PointValid.f a0_0 a0_1 = some r) :
  Calls Try.prog 57 #[.agg #[.int .i64 a0_0, .int .i64 a0_1]] w fun e w' => e = .returned (.bool r) ∧ Below w.heap.size w w' := by
 have hu32 := Try.underlying32
 have HB := Aside0.mk (Below.refl w.heap.size w)
 have H : ((spec_l6In.f a0_0 (-10000) 10000).bind fun t145 => (if t145 = true then ((spec_l6In.f a0_1 (-10000) 10000).bind fun t146 => (some t146)) else (some false))) = some r := h
 clear h
 replace H := Option.bind_eq_some_iff.mp H
 obtain ⟨t145, A20, H⟩ := H
 replace H : (if t145 = true then ((spec_l6In.f a0_1 (-10000) 10000).bind fun t146 => (some t146)) else (some false)) = some r := H
 have A2 := Aside0.mk A20
 clear A20
 by_cases c3 : t145 = true
 ·subst c3
  have H1 : ((spec_l6In.f a0_1 (-10000) 10000).bind fun t146 => (some t146)) = some r := by rw [if_pos rfl] at H; exact H
  clear H
  have H := H1
  clear H1
  replace H := Option.bind_eq_some_iff.mp H
  obtain ⟨t146, A40, H⟩ := H
  replace H : (some t146) = some r := H
  have A4 := Aside0.mk A40
  clear A40
  obtain rfl := Option.some.inj H
  go_enter Try.func57, Try.ntmps57
  go_wp2_with (first | ((with_reducible refine gate_dst (N := 1) rfl ?_); refine box_event ?hg (N := 1) ?hd (cs := #[.int .i64 a0_0, .int .i64 a0_1]) (t := 32) ?hr ?_; (case hd => rfl); (case hg => rfl); (case hr => exact qq22); intro gb144 hg w5 hbox hb; have n0_ := Aside0.mk (below_step qq1 hb); have n1_ := Aside0.mk (hbox); have n2_ := Aside0.mk ((qq35 : w.heap.size ≤ gb144)); have n3_ := Aside0.mk ((qq35 : w.heap.size ≤ gb144)); clear HB; have HB := n0_; have BK144 := n1_; have GW144 := n2_; have GE144 := n3_; clear n0_ n1_ n2_ n3_; clear hb hbox hg; have hcz6_0 : w5.cell? ⟨gb144, 0, none⟩ = some (.int .i64 a0_0) := (blk_cell BK144.out 0).trans rfl; have hcz6_1 : w5.cell? ⟨gb144, 1, none⟩ = some (.int .i64 a0_1) := (blk_cell BK144.out 1).trans rfl; have hfz6_0 := blk_frozen BK144.out 0; have hfz6_1 := blk_frozen BK144.out 1) | ((with_reducible refine gate_callee (f := 67) rfl ?_); refine goesL_ (some 5) rfl rfl Try.func67 (by kernel_rfl) rfl #[.int .i64 a0_0, .int .i64 (-10000), .int .i64 10000] rfl qq3 ?_; (with_reducible refine (spec_l6In.calls a0_0 (-10000) 10000 true _ A2.out).mono ?_); rintro e w' ⟨rfl, ⟨nd, rfl⟩⟩; refine ⟨_, rfl, ?_⟩) | (go_at_call 67; (with_reducible refine (spec_l6In.calls a0_1 (-10000) 10000 t146 _ A4.out).mono ?_); rintro e w' ⟨rfl, ⟨nd, rfl⟩⟩))
  go_ret
  exact ⟨qq10, qq7 HB.out GE144.out⟩
 ·replace c3 := Bool.eq_false_iff.mpr c3
  subst c3
  have H1 : (some false) = some r := by rw [if_neg (show ¬ (false = true) by decide)] at H; exact H
  clear H
  have H := H1
  clear H1
  obtain rfl := Option.some.inj H
  go_enter Try.func57, Try.ntmps57
  go_wp2_with (first | ((with_reducible refine gate_dst (N := 1) rfl ?_); refine box_event ?hg (N := 1) ?hd (cs := #[.int .i64 a0_0, .int .i64 a0_1]) (t := 32) ?hr ?_; (case hd => rfl); (case hg => rfl); (case hr => exact qq22); intro gb144 hg w7 hbox hb; have n0_ := Aside0.mk (below_step qq1 hb); have n1_ := Aside0.mk (hbox); have n2_ := Aside0.mk ((qq35 : w.heap.size ≤ gb144)); have n3_ := Aside0.mk ((qq35 : w.heap.size ≤ gb144)); clear HB; have HB := n0_; have BK144 := n1_; have GW144 := n2_; have GE144 := n3_; clear n0_ n1_ n2_ n3_; clear hb hbox hg; have hcz8_0 : w7.cell? ⟨gb144, 0, none⟩ = some (.int .i64 a0_0) := (blk_cell BK144.out 0).trans rfl; have hcz8_1 : w7.cell? ⟨gb144, 1, none⟩ = some (.int .i64 a0_1) := (blk_cell BK144.out 1).trans rfl; have hfz8_0 := blk_frozen BK144.out 0; have hfz8_1 := blk_frozen BK144.out 1) | ((with_reducible refine gate_callee (f := 67) rfl ?_); refine goesL_ (some 5) rfl rfl Try.func67 (by kernel_rfl) rfl #[.int .i64 a0_0, .int .i64 (-10000), .int .i64 10000] rfl qq3 ?_; (with_reducible refine (spec_l6In.calls a0_0 (-10000) 10000 false _ A2.out).mono ?_); rintro e w' ⟨rfl, ⟨nd, rfl⟩⟩; refine ⟨_, rfl, ?_⟩))
  go_ret
  exact ⟨qq10, qq7 HB.out GE144.out⟩

/-! ### spec_l31Points: function 45 -/
def spec_l31Points.l0 : Nat → List (S32) → Int → Option (Bool)
 | 0, _, _ => none
 | k + 1, x0, x3 => if x3 < (x0.length : Int) then (if 0 ≤ x3 then ((spec_PointValid.f ((rd_T32 x0 x3).f0) ((rd_T32 x0 x3).f1)).bind fun t148 => (if t148 = true then (spec_l31Points.l0 k x0 (wrap64 (x3 + 1))) else (some false))) else (none)) else ((spec_l6In.f (x0.length : Int) 3 12).bind fun t149 => (some t149))
def spec_l31Points.f (k : Nat) (l0 : List (S32)) : Option (Bool) := spec_l31Points.l0 k l0 0
set_option maxHeartbeats 8000000 in
set_option maxRecDepth 100000 in
theorem spec_l31Points.calls (k : Nat) (A0 : Option Addr) (c0 : Nat) (l0 : List (S32)) (r : Bool) (w : World) (hr0 : Kd.C k32 w A0 l0.length l0) (hc0 : l0.length ≤ c0) (h : spec_l31Points.f k l0 = some r) :
  Calls Try.prog 45 #[.slice A0 l0.length c0] w fun e w' => e = .returned (.bool r) ∧ Below w.heap.size w w' := by
 have hu32 := Try.underlying32
 have HR0 := Aside0.mk hr0
 have HC0 := Aside0.mk hc0
 clear hr0 hc0
 have HB := Aside0.mk (Below.refl w.heap.size w)
 have H : (spec_l31Points.l0 k l0 0) = some r := h
 clear h
 have H' := Aside0.mk H
 clear H
 go_enter Try.func45, Try.ntmps45
 go_wp2
 go_loopg [3] k (fun kq v3 w' => ∃ (x3_1 : Int), v3 = .int .i64 x3_1 ∧ Aside0 (spec_l31Points.l0 kq l0 x3_1 = some r) ∧ Aside0 (kq ≤ k) ∧ Aside0 (Below w.heap.size w w'))
 case atStart => exact ⟨(0), qq25, H', ⟨Nat.le_refl _⟩, ⟨qq1⟩⟩
 case round =>
  clear H'
  obtain ⟨x3_1, rfl, HA, HK1, HB⟩ := hrel
  cases gk with
  | zero => exact absurd HA.out (by simp [spec_l31Points.l0])
  | succ k1 =>
   have H := HA.out
   clear HA
   simp only [spec_l31Points.l0] at H
   by_cases c2 : x3_1 < (l0.length : Int)
   ·rw [if_pos c2] at H
    have c2b0 : decide (x3_1 < (l0.length : Int)) = true := decide_eq_true c2
    clear c2
    by_cases c3 : 0 ≤ x3_1
    ·rw [if_pos c3] at H
     have c3b0 : decide (0 ≤ x3_1) = true := decide_eq_true c3
     clear c3
     replace H := Option.bind_eq_some_iff.mp H
     obtain ⟨t148, A40, H⟩ := H
     replace H : (if t148 = true then (spec_l31Points.l0 k1 l0 (wrap64 (x3_1 + 1))) else (some false)) = some r := H
     have A4 := Aside0.mk A40
     clear A40
     by_cases c5 : t148 = true
     ·subst c5
      have H1 : (spec_l31Points.l0 k1 l0 (wrap64 (x3_1 + 1))) = some r := by rw [if_pos rfl] at H; exact H
      clear H
      have H := H1
      clear H1
      have H' := Aside0.mk H
      clear H
      have p147 : 0 ≤ (x3_1 : Int) := of_decide_eq_true qq14
      have q147 : x3_1 < (l0.length : Int) := of_decide_eq_true qq14
      obtain ⟨ad147, e147, hx147_0, hx147_1⟩ := at_T32 HR0.out x3_1 p147 q147
      cases e147
      replace hx147_0 := (HB.out.cell (World.block_lt_of_cell? w _ hx147_0)).trans hx147_0
      replace hx147_1 := (HB.out.cell (World.block_lt_of_cell? w _ hx147_1)).trans hx147_1
      replace p147 := eq_true p147
      replace q147 := eq_true q147
      go_wp2_with (first | ((with_reducible refine gate_callee (f := 57) rfl ?_); refine goesL_ (some 14) rfl rfl Try.func57 (by kernel_rfl) rfl #[.agg #[.int .i64 ((rd_T32 l0 x3_1).f0), .int .i64 ((rd_T32 l0 x3_1).f1)]] rfl qq3 ?_; (with_reducible refine (spec_PointValid.calls ((rd_T32 l0 x3_1).f0) ((rd_T32 l0 x3_1).f1) true _ A4.out).mono ?_); rintro e w6 ⟨rfl, hb⟩; refine ⟨_, rfl, ?_⟩; have n0_ := Aside0.mk (below_step qq1 hb); clear HB; have HB := n0_; clear n0_; (try clear hb); (try clear hb2); (try clear hk); (try clear hi)))
      go_roundg k1
      case measure => have := HK1.out; omega
      case rel => exact ⟨(wrap64 (x3_1 + 1)), qq25, H', ⟨by have := HK1.out; omega⟩, ⟨qq1⟩⟩
     ·replace c5 := Bool.eq_false_iff.mpr c5
      subst c5
      have H1 : (some false) = some r := by rw [if_neg (show ¬ (false = true) by decide)] at H; exact H
      clear H
      have H := H1
      clear H1
      obtain rfl := Option.some.inj H
      have p147 : 0 ≤ (x3_1 : Int) := of_decide_eq_true qq14
      have q147 : x3_1 < (l0.length : Int) := of_decide_eq_true qq14
      obtain ⟨ad147, e147, hx147_0, hx147_1⟩ := at_T32 HR0.out x3_1 p147 q147
      cases e147
      replace hx147_0 := (HB.out.cell (World.block_lt_of_cell? w _ hx147_0)).trans hx147_0
      replace hx147_1 := (HB.out.cell (World.block_lt_of_cell? w _ hx147_1)).trans hx147_1
      replace p147 := eq_true p147
      replace q147 := eq_true q147
      go_wp2_with (first | ((with_reducible refine gate_callee (f := 57) rfl ?_); refine goesL_ (some 14) rfl rfl Try.func57 (by kernel_rfl) rfl #[.agg #[.int .i64 ((rd_T32 l0 x3_1).f0), .int .i64 ((rd_T32 l0 x3_1).f1)]] rfl qq3 ?_; (with_reducible refine (spec_PointValid.calls ((rd_T32 l0 x3_1).f0) ((rd_T32 l0 x3_1).f1) false _ A4.out).mono ?_); rintro e w7 ⟨rfl, hb⟩; refine ⟨_, rfl, ?_⟩; have n0_ := Aside0.mk (below_step qq1 hb); clear HB; have HB := n0_; clear n0_; (try clear hb); (try clear hb2); (try clear hk); (try clear hi)))
      go_ret
      exact ⟨qq10, qq1⟩
    ·rw [if_neg c3] at H
     exact absurd H (by simp)
   ·rw [if_neg c2] at H
    have c2b0 : decide (x3_1 < (l0.length : Int)) = false := decide_eq_false c2
    clear c2
    replace H := Option.bind_eq_some_iff.mp H
    obtain ⟨t149, A80, H⟩ := H
    replace H : (some t149) = some r := H
    have A8 := Aside0.mk A80
    clear A80
    obtain rfl := Option.some.inj H
    go_wp2_with (first | ((with_reducible refine gate_callee (f := 67) rfl ?_); refine goesL_ (some 18) rfl rfl Try.func67 (by kernel_rfl) rfl #[.int .i64 (l0.length : Int), .int .i64 3, .int .i64 12] rfl qq3 ?_; (with_reducible refine (spec_l6In.calls (l0.length : Int) 3 12 t149 _ A8.out).mono ?_); rintro e w' ⟨rfl, ⟨nd, rfl⟩⟩; refine ⟨_, rfl, ?_⟩))
    go_ret
    exact ⟨qq10, qq1⟩

/-! ### impl_pairOf: function 53 -/
def impl_pairOf.f (a0_0 : Int) (a0_1 : Int) : Option (Int × Int) := some (a0_0, a0_1)
set_option maxHeartbeats 8000000 in
set_option maxRecDepth 100000 in
theorem impl_pairOf.calls (a0_0 : Int) (a0_1 : Int) (r1 : Int) (r2 : Int) (w : World) (h : impl_pairOf.f a0_0 a0_1 = some (r1, r2)) :
  Calls Try.prog 53 #[.agg #[.int .i64 a0_0, .int .i64 a0_1]] w fun e w' => e = .returned (.agg #[.int .i64 r1, .int .i64 r2]) ∧ Below w.heap.size w w' := by
 have hu32 := Try.underlying32
 have hu66 := Try.underlying66
 have HB := Aside0.mk (Below.refl w.heap.size w)
 have H : (some (a0_0, a0_1)) = some (r1, r2) := h
 clear h
 simp only [Option.some.injEq, Prod.mk.injEq] at H
 obtain ⟨rfl, rfl⟩ := H
 go_enter Try.func53, Try.ntmps53
 go_wp2_with (first | ((with_reducible refine gate_dst (N := 1) rfl ?_); refine box_event ?hg (N := 1) ?hd (cs := #[.int .i64 a0_0, .int .i64 a0_1]) (t := 32) ?hr ?_; (case hd => rfl); (case hg => rfl); (case hr => exact qq22); intro gb207 hg w2 hbox hb; have n0_ := Aside0.mk (below_step qq1 hb); have n1_ := Aside0.mk (hbox); have n2_ := Aside0.mk ((qq35 : w.heap.size ≤ gb207)); have n3_ := Aside0.mk ((qq35 : w.heap.size ≤ gb207)); clear HB; have HB := n0_; have BK207 := n1_; have GW207 := n2_; have GE207 := n3_; clear n0_ n1_ n2_ n3_; clear hb hbox hg) | ((with_reducible refine gate_dst (N := 2) rfl ?_); refine box_event ?hg (N := 2) ?hd (cs := #[.int .i64 0, .int .i64 0]) (t := 66) ?hr ?_; (case hd => rfl); (case hg => rfl); (case hr => exact qq22); intro gb208 hg w3 hbox hb; have n0_ := Aside0.mk (bbl_ BK207.out hb); have n1_ := Aside0.mk (below_step (qq7 HB.out GE207.out) hb); have n2_ := Aside0.mk (hbox); have n3_ := Aside0.mk ((qq43 HB.out GE207.out : w.heap.size ≤ gb208)); have n4_ := Aside0.mk ((qq43 HB.out GE207.out : w.heap.size ≤ gb208)); have n5_ := Aside0.mk ((qq31 BK207.out : gb207 ≠ gb208)); have n6_ := Aside0.mk ((qq32 BK207.out : gb208 ≠ gb207)); clear BK207; clear HB; have BK207 := n0_; have HB := n1_; have BK208 := n2_; have GW208 := n3_; have GE208 := n4_; have NB207_208 := n5_; have NB208_207 := n6_; clear n0_ n1_ n2_ n3_ n4_ n5_ n6_; clear hb hbox hg; have hnb4 := NB207_208.out; have hnc4 := NB208_207.out; have hcz5_0 : w3.cell? ⟨gb207, 0, none⟩ = some (.int .i64 a0_0) := (blk_cell BK207.out 0).trans rfl; have hcz5_1 : w3.cell? ⟨gb207, 1, none⟩ = some (.int .i64 a0_1) := (blk_cell BK207.out 1).trans rfl; have hfz5_0 := blk_frozen BK207.out 0; have hfz5_1 := blk_frozen BK207.out 1; have hcz6_0 : w3.cell? ⟨gb208, 0, none⟩ = some (.int .i64 0) := (blk_cell BK208.out 0).trans rfl; have hcz6_1 : w3.cell? ⟨gb208, 1, none⟩ = some (.int .i64 0) := (blk_cell BK208.out 1).trans rfl; have hfz6_0 := blk_frozen BK208.out 0; have hfz6_1 := blk_frozen BK208.out 1))
 refine bodyPost_ret (results_cell_row rfl _ _ gb208 66 #[.int .i64 a0_0, .int .i64 a0_1] (0, 0) _ rfl (by (with_reducible repeat (first | refine blk_drewN ?_ _ | refine blk_drew ?_ | refine blk_alloc ?_ _)); refine blk_put (cs := #[.int .i64 a0_0, .int .i64 0]) ?_ 1 _ rfl; (with_reducible repeat (first | refine blk_drewN ?_ _ | refine blk_drew ?_ | refine blk_alloc ?_ _)); refine blk_put (cs := #[.int .i64 0, .int .i64 0]) ?_ 0 _ rfl; (with_reducible repeat (first | refine blk_drewN ?_ _ | refine blk_drew ?_ | refine blk_alloc ?_ _)); exact BK208.out) Try.underlying66 rfl (by kernel_rfl)) rfl ?_
 exact ⟨qq10, qq13 HB.out GE207.out GE208.out⟩

/-! ### impl_within: function 78 -/
def impl_within.f (a0 : Int) (a1 : Int) : Option (Bool) := if (wrap64 (-a1)) ≤ a0 then (some (decide (a0 ≤ a1))) else (some false)
set_option maxHeartbeats 8000000 in
set_option maxRecDepth 100000 in
theorem impl_within.calls (a0 : Int) (a1 : Int) (r : Bool) (w : World) (h : impl_within.f a0 a1 = some r) :
  Calls Try.prog 78 #[.int .i64 a0, .int .i64 a1] w fun e w' => e = .returned (.bool r) ∧ Drawn0 w w' := by
 have H : (if (wrap64 (-a1)) ≤ a0 then (some (decide (a0 ≤ a1))) else (some false)) = some r := h
 clear h
 by_cases c3 : (wrap64 (-a1)) ≤ a0
 ·rw [if_pos c3] at H
  have c3b0 : decide ((wrap64 (-a1)) ≤ a0) = true := decide_eq_true c3
  clear c3
  obtain rfl := Option.some.inj H
  go_enter Try.func78, Try.ntmps78
  go_wp2
  go_ret
  exact ⟨qq25, qq42⟩
 ·rw [if_neg c3] at H
  have c3b0 : decide ((wrap64 (-a1)) ≤ a0) = false := decide_eq_false c3
  clear c3
  obtain rfl := Option.some.inj H
  go_enter Try.func78, Try.ntmps78
  go_wp2
  go_ret
  exact ⟨qq25, qq42⟩

/-! ### impl_pair_inRange: function 54 -/
def impl_pair_inRange.f (a0_0 : Int) (a0_1 : Int) (a1 : Int) : Option (Bool) := (impl_within.f a0_0 a1).bind fun t210 => (if t210 = true then ((impl_within.f a0_1 a1).bind fun t211 => (some t211)) else (some false))
set_option maxHeartbeats 8000000 in
set_option maxRecDepth 100000 in
theorem impl_pair_inRange.calls (a0_0 : Int) (a0_1 : Int) (a1 : Int) (r : Bool) (w : World) (h : impl_pair_inRange.f a0_0 a0_1 a1 = some r) :
  Calls Try.prog 54 #[.agg #[.int .i64 a0_0, .int .i64 a0_1], .int .i64 a1] w fun e w' => e = .returned (.bool r) ∧ Below w.heap.size w w' := by
 have hu66 := Try.underlying66
 have HB := Aside0.mk (Below.refl w.heap.size w)
 have H : ((impl_within.f a0_0 a1).bind fun t210 => (if t210 = true then ((impl_within.f a0_1 a1).bind fun t211 => (some t211)) else (some false))) = some r := h
 clear h
 replace H := Option.bind_eq_some_iff.mp H
 obtain ⟨t210, A30, H⟩ := H
 replace H : (if t210 = true then ((impl_within.f a0_1 a1).bind fun t211 => (some t211)) else (some false)) = some r := H
 have A3 := Aside0.mk A30
 clear A30
 by_cases c4 : t210 = true
 ·subst c4
  have H1 : ((impl_within.f a0_1 a1).bind fun t211 => (some t211)) = some r := by rw [if_pos rfl] at H; exact H
  clear H
  have H := H1
  clear H1
  replace H := Option.bind_eq_some_iff.mp H
  obtain ⟨t211, A50, H⟩ := H
  replace H : (some t211) = some r := H
  have A5 := Aside0.mk A50
  clear A50
  obtain rfl := Option.some.inj H
  go_enter Try.func54, Try.ntmps54
  go_wp2_with (first | ((with_reducible refine gate_dst (N := 2) rfl ?_); refine box_event ?hg (N := 2) ?hd (cs := #[.int .i64 a0_0, .int .i64 a0_1]) (t := 66) ?hr ?_; (case hd => rfl); (case hg => rfl); (case hr => exact qq22); intro gb209 hg w6 hbox hb; have n0_ := Aside0.mk (below_step qq1 hb); have n1_ := Aside0.mk (hbox); have n2_ := Aside0.mk ((qq35 : w.heap.size ≤ gb209)); have n3_ := Aside0.mk ((qq35 : w.heap.size ≤ gb209)); clear HB; have HB := n0_; have BK209 := n1_; have GW209 := n2_; have GE209 := n3_; clear n0_ n1_ n2_ n3_; clear hb hbox hg; have hcz7_0 : w6.cell? ⟨gb209, 0, none⟩ = some (.int .i64 a0_0) := (blk_cell BK209.out 0).trans rfl; have hcz7_1 : w6.cell? ⟨gb209, 1, none⟩ = some (.int .i64 a0_1) := (blk_cell BK209.out 1).trans rfl; have hfz7_0 := blk_frozen BK209.out 0; have hfz7_1 := blk_frozen BK209.out 1) | ((with_reducible refine gate_callee (f := 78) rfl ?_); refine goesL_ (some 8) rfl rfl Try.func78 (by kernel_rfl) rfl #[.int .i64 a0_0, .int .i64 a1] rfl qq3 ?_; (with_reducible refine (impl_within.calls a0_0 a1 true _ A3.out).mono ?_); rintro e w' ⟨rfl, ⟨nd, rfl⟩⟩; refine ⟨_, rfl, ?_⟩) | (go_at_call 78; (with_reducible refine (impl_within.calls a0_1 a1 t211 _ A5.out).mono ?_); rintro e w' ⟨rfl, ⟨nd, rfl⟩⟩))
  go_ret
  exact ⟨qq10, qq7 HB.out GE209.out⟩
 ·replace c4 := Bool.eq_false_iff.mpr c4
  subst c4
  have H1 : (some false) = some r := by rw [if_neg (show ¬ (false = true) by decide)] at H; exact H
  clear H
  have H := H1
  clear H1
  obtain rfl := Option.some.inj H
  go_enter Try.func54, Try.ntmps54
  go_wp2_with (first | ((with_reducible refine gate_dst (N := 2) rfl ?_); refine box_event ?hg (N := 2) ?hd (cs := #[.int .i64 a0_0, .int .i64 a0_1]) (t := 66) ?hr ?_; (case hd => rfl); (case hg => rfl); (case hr => exact qq22); intro gb209 hg w8 hbox hb; have n0_ := Aside0.mk (below_step qq1 hb); have n1_ := Aside0.mk (hbox); have n2_ := Aside0.mk ((qq35 : w.heap.size ≤ gb209)); have n3_ := Aside0.mk ((qq35 : w.heap.size ≤ gb209)); clear HB; have HB := n0_; have BK209 := n1_; have GW209 := n2_; have GE209 := n3_; clear n0_ n1_ n2_ n3_; clear hb hbox hg; have hcz9_0 : w8.cell? ⟨gb209, 0, none⟩ = some (.int .i64 a0_0) := (blk_cell BK209.out 0).trans rfl; have hcz9_1 : w8.cell? ⟨gb209, 1, none⟩ = some (.int .i64 a0_1) := (blk_cell BK209.out 1).trans rfl; have hfz9_0 := blk_frozen BK209.out 0; have hfz9_1 := blk_frozen BK209.out 1) | ((with_reducible refine gate_callee (f := 78) rfl ?_); refine goesL_ (some 8) rfl rfl Try.func78 (by kernel_rfl) rfl #[.int .i64 a0_0, .int .i64 a1] rfl qq3 ?_; (with_reducible refine (impl_within.calls a0_0 a1 false _ A3.out).mono ?_); rintro e w' ⟨rfl, ⟨nd, rfl⟩⟩; refine ⟨_, rfl, ?_⟩))
  go_ret
  exact ⟨qq10, qq7 HB.out GE209.out⟩

/-! ### impl_PointValid: function 23 -/
def impl_PointValid.f (a0_0 : Int) (a0_1 : Int) : Option (Bool) := (impl_pairOf.f a0_0 a0_1).bind fun bt213 => ((impl_pair_inRange.f bt213.1 bt213.2 10000).bind fun t215 => (some t215))
set_option maxHeartbeats 8000000 in
set_option maxRecDepth 100000 in
theorem impl_PointValid.calls (a0_0 : Int) (a0_1 : Int) (r : Bool) (w : World) (h : impl_PointValid.f a0_0 a0_1 = some r) :
  Calls Try.prog 23 #[.agg #[.int .i64 a0_0, .int .i64 a0_1]] w fun e w' => e = .returned (.bool r) ∧ Below w.heap.size w w' := by
 have hu32 := Try.underlying32
 have HB := Aside0.mk (Below.refl w.heap.size w)
 have H : ((impl_pairOf.f a0_0 a0_1).bind fun bt213 => ((impl_pair_inRange.f bt213.1 bt213.2 10000).bind fun t215 => (some t215))) = some r := h
 clear h
 replace H := Option.bind_eq_some_iff.mp H
 obtain ⟨⟨t213, t214⟩, A20, H⟩ := H
 replace H : ((impl_pair_inRange.f t213 t214 10000).bind fun t215 => (some t215)) = some r := H
 have A2 := Aside0.mk A20
 clear A20
 replace H := Option.bind_eq_some_iff.mp H
 obtain ⟨t215, A30, H⟩ := H
 replace H : (some t215) = some r := H
 have A3 := Aside0.mk A30
 clear A30
 obtain rfl := Option.some.inj H
 go_enter Try.func23, Try.ntmps23
 go_wp2_with (first | ((with_reducible refine gate_dst (N := 1) rfl ?_); refine box_event ?hg (N := 1) ?hd (cs := #[.int .i64 a0_0, .int .i64 a0_1]) (t := 32) ?hr ?_; (case hd => rfl); (case hg => rfl); (case hr => exact qq22); intro gb212 hg w4 hbox hb; have n0_ := Aside0.mk (below_step qq1 hb); have n1_ := Aside0.mk (hbox); have n2_ := Aside0.mk ((qq35 : w.heap.size ≤ gb212)); have n3_ := Aside0.mk ((qq35 : w.heap.size ≤ gb212)); clear HB; have HB := n0_; have BK212 := n1_; have GW212 := n2_; have GE212 := n3_; clear n0_ n1_ n2_ n3_; clear hb hbox hg; have hcz5_0 : w4.cell? ⟨gb212, 0, none⟩ = some (.int .i64 a0_0) := (blk_cell BK212.out 0).trans rfl; have hcz5_1 : w4.cell? ⟨gb212, 1, none⟩ = some (.int .i64 a0_1) := (blk_cell BK212.out 1).trans rfl; have hfz5_0 := blk_frozen BK212.out 0; have hfz5_1 := blk_frozen BK212.out 1) | ((with_reducible refine gate_callee (f := 53) rfl ?_); refine goesL_ (some 4) rfl rfl Try.func53 (by kernel_rfl) rfl #[.agg #[.int .i64 a0_0, .int .i64 a0_1]] rfl qq3 ?_; (with_reducible refine (impl_pairOf.calls a0_0 a0_1 t213 t214 _ A2.out).mono ?_); rintro e w6 ⟨rfl, hb⟩; refine ⟨_, rfl, ?_⟩; have n0_ := Aside0.mk (bbl_ BK212.out hb); have n1_ := Aside0.mk (below_step (qq7 HB.out GE212.out) hb); clear BK212; clear HB; have BK212 := n0_; have HB := n1_; clear n0_ n1_; (try clear hb); (try clear hb2); (try clear hk); (try clear hi)) | ((with_reducible refine gate_callee (f := 54) rfl ?_); refine goesL_ (some 5) rfl rfl Try.func54 (by kernel_rfl) rfl #[.agg #[.int .i64 t213, .int .i64 t214], .int .i64 10000] rfl qq3 ?_; (with_reducible refine (impl_pair_inRange.calls t213 t214 10000 t215 _ A3.out).mono ?_); rintro e w7 ⟨rfl, hb⟩; refine ⟨_, rfl, ?_⟩; have n0_ := Aside0.mk (bbl_ BK212.out hb); have n1_ := Aside0.mk (below_step (qq7 HB.out GE212.out) hb); clear BK212; clear HB; have BK212 := n0_; have HB := n1_; clear n0_ n1_; (try clear hb); (try clear hb2); (try clear hk); (try clear hi)))
 go_ret
 exact ⟨qq10, qq7 HB.out GE212.out⟩

/-! ### impl_pair_cross: function 74 -/
def impl_pair_cross.f (a0_0 : Int) (a0_1 : Int) (a1_0 : Int) (a1_1 : Int) : Option (Int) := some (wrap64 ((wrap64 (a0_0 * a1_1)) - (wrap64 (a1_0 * a0_1))))
set_option maxHeartbeats 8000000 in
set_option maxRecDepth 100000 in
theorem impl_pair_cross.calls (a0_0 : Int) (a0_1 : Int) (a1_0 : Int) (a1_1 : Int) (r : Int) (w : World) (h : impl_pair_cross.f a0_0 a0_1 a1_0 a1_1 = some r) :
  Calls Try.prog 74 #[.agg #[.int .i64 a0_0, .int .i64 a0_1], .agg #[.int .i64 a1_0, .int .i64 a1_1]] w fun e w' => e = .returned (.int .i64 r) ∧ Below w.heap.size w w' := by
 have hu66 := Try.underlying66
 have HB := Aside0.mk (Below.refl w.heap.size w)
 have H : (some (wrap64 ((wrap64 (a0_0 * a1_1)) - (wrap64 (a1_0 * a0_1))))) = some r := h
 clear h
 obtain rfl := Option.some.inj H
 go_enter Try.func74, Try.ntmps74
 go_wp2_with (first | ((with_reducible refine gate_dst (N := 2) rfl ?_); refine box_event ?hg (N := 2) ?hd (cs := #[.int .i64 a0_0, .int .i64 a0_1]) (t := 66) ?hr ?_; (case hd => rfl); (case hg => rfl); (case hr => exact qq22); intro gb219 hg w3 hbox hb; have n0_ := Aside0.mk (below_step qq1 hb); have n1_ := Aside0.mk (hbox); have n2_ := Aside0.mk ((qq35 : w.heap.size ≤ gb219)); have n3_ := Aside0.mk ((qq35 : w.heap.size ≤ gb219)); clear HB; have HB := n0_; have BK219 := n1_; have GW219 := n2_; have GE219 := n3_; clear n0_ n1_ n2_ n3_; clear hb hbox hg) | ((with_reducible refine gate_dst (N := 3) rfl ?_); refine box_event ?hg (N := 3) ?hd (cs := #[.int .i64 a1_0, .int .i64 a1_1]) (t := 66) ?hr ?_; (case hd => rfl); (case hg => rfl); (case hr => exact qq22); intro gb220 hg w4 hbox hb; have n0_ := Aside0.mk (bbl_ BK219.out hb); have n1_ := Aside0.mk (below_step (qq7 HB.out GE219.out) hb); have n2_ := Aside0.mk (hbox); have n3_ := Aside0.mk ((qq43 HB.out GE219.out : w.heap.size ≤ gb220)); have n4_ := Aside0.mk ((qq43 HB.out GE219.out : w.heap.size ≤ gb220)); have n5_ := Aside0.mk ((qq31 BK219.out : gb219 ≠ gb220)); have n6_ := Aside0.mk ((qq32 BK219.out : gb220 ≠ gb219)); clear BK219; clear HB; have BK219 := n0_; have HB := n1_; have BK220 := n2_; have GW220 := n3_; have GE220 := n4_; have NB219_220 := n5_; have NB220_219 := n6_; clear n0_ n1_ n2_ n3_ n4_ n5_ n6_; clear hb hbox hg; have hnb5 := NB219_220.out; have hnc5 := NB220_219.out; have hcz6_0 : w4.cell? ⟨gb219, 0, none⟩ = some (.int .i64 a0_0) := (blk_cell BK219.out 0).trans rfl; have hcz6_1 : w4.cell? ⟨gb219, 1, none⟩ = some (.int .i64 a0_1) := (blk_cell BK219.out 1).trans rfl; have hfz6_0 := blk_frozen BK219.out 0; have hfz6_1 := blk_frozen BK219.out 1; have hcz7_0 : w4.cell? ⟨gb220, 0, none⟩ = some (.int .i64 a1_0) := (blk_cell BK220.out 0).trans rfl; have hcz7_1 : w4.cell? ⟨gb220, 1, none⟩ = some (.int .i64 a1_1) := (blk_cell BK220.out 1).trans rfl; have hfz7_0 := blk_frozen BK220.out 0; have hfz7_1 := blk_frozen BK220.out 1))
 go_ret
 exact ⟨qq10, qq13 HB.out GE219.out GE220.out⟩

end Go.Proofs.Ytgdhgncdpmalcaa.Q
namespace Go.Proofs.Ytgdhgncdpmalcaa.Q
open Go.RowKit Go.Proofs.YtgdhgncdpmalcaaW.PrintWords Go.Proofs.YtgdhgncdpmalcaaW.PrintLast Go.Proofs.YtgdhgncdpmalcaaW.PrintMore
attribute [local go_sem] max2_int min2_int max_two min_two max_three min_three max_four min_four
set_option linter.unusedVariables false
set_option linter.unusedSimpArgs false

/-! ### impl_cornersValid: function 47 -/
mutual
def impl_cornersValid.j0 : Nat → List (S32) → Bool → Option (Bool)
 | 0, _, _ => none
 | k + 1, x0, x12 => if x12 = true then (some false) else (impl_cornersValid.l0 k x0 (x0.length : Int) 0)
def impl_cornersValid.l0 : Nat → List (S32) → Int → Int → Option (Bool)
 | 0, _, _, _ => none
 | k + 1, x13, x14, x15 => if x15 < x14 then (if 0 ≤ x15 then (if x15 < (x13.length : Int) then ((impl_PointValid.f ((rd_T32 x13 x15).f0) ((rd_T32 x13 x15).f1)).bind fun t218 => (if t218 = true then (impl_cornersValid.l0 k x13 x14 (wrap64 (x15 + 1))) else (some false))) else (none)) else (none)) else (some true)
end
def impl_cornersValid.f (k : Nat) (l0 : List (S32)) : Option (Bool) := if (l0.length : Int) < 3 then (impl_cornersValid.j0 k l0 true) else (impl_cornersValid.j0 k l0 (decide ((l0.length : Int) > 12)))
set_option maxHeartbeats 8000000 in
set_option maxRecDepth 100000 in
theorem impl_cornersValid.calls (k : Nat) (A0 : Option Addr) (c0 : Nat) (l0 : List (S32)) (r : Bool) (w : World) (hr0 : Kd.C k32 w A0 l0.length l0) (hc0 : l0.length ≤ c0) (h : impl_cornersValid.f k l0 = some r) :
  Calls Try.prog 47 #[.slice A0 l0.length c0] w fun e w' => e = .returned (.bool r) ∧ Below w.heap.size w w' := by
 have hu32 := Try.underlying32
 have HR0 := Aside0.mk hr0
 have HC0 := Aside0.mk hc0
 clear hr0 hc0
 have HB := Aside0.mk (Below.refl w.heap.size w)
 have H : (if (l0.length : Int) < 3 then (impl_cornersValid.j0 k l0 true) else (impl_cornersValid.j0 k l0 (decide ((l0.length : Int) > 12)))) = some r := h
 clear h
 have HC2 := Aside0.mk H
 clear H
 go_enter Try.func47, Try.ntmps47
 go_upto_region 1 with (fail)
 go_cut [12] (fun v12 wc => ∃ (kq : Nat) (x12_1 : Bool), v12 = .bool x12_1 ∧ Aside0 (impl_cornersValid.j0 kq l0 x12_1 = some r) ∧ Aside0 (kq ≤ k) ∧ Aside0 (Below w.heap.size w wc))
 case first =>
  have H := HC2.out
  clear HC2
  by_cases c3 : (l0.length : Int) < 3
  ·rw [if_pos c3] at H
   have c3b0 : decide ((l0.length : Int) < 3) = true := decide_eq_true c3
   have c3b1 : decide (l0.length < 3) = true := decide_eq_true (by omega)
   clear c3
   (first | rw [c3b0] | (simp only [i64_w, i32_w]; rw [c3b0]) | skip)
   have H' := Aside0.mk H
   clear H
   go_wp2
   go_meet
   case rel => exact ⟨_, (true), qq25, H', ⟨qq40⟩, ⟨qq1⟩⟩
  ·rw [if_neg c3] at H
   have c3b0 : decide ((l0.length : Int) < 3) = false := decide_eq_false c3
   have c3b1 : decide (l0.length < 3) = false := decide_eq_false (by omega)
   clear c3
   (first | rw [c3b0] | (simp only [i64_w, i32_w]; rw [c3b0]) | skip)
   have H' := Aside0.mk H
   clear H
   go_wp2
   go_meet
   case rel => exact ⟨_, (decide ((l0.length : Int) > 12)), qq25, H', ⟨qq40⟩, ⟨qq1⟩⟩
 case rest =>
  clear HC2
  try clear p2
  try clear c3
  try clear c3b0
  try clear c3b1
  obtain ⟨kq, x12_1, rfl, HA, HJ1, HB⟩ := hcut
  cases kq with
  | zero => exact absurd HA.out (by simp [impl_cornersValid.j0])
  | succ kj1 =>
   have H := HA.out
   clear HA
   simp only [impl_cornersValid.j0] at H
   by_cases c4 : x12_1 = true
   ·subst c4
    have H1 : (some false) = some r := by rw [if_pos rfl] at H; exact H
    clear H
    have H := H1
    clear H1
    obtain rfl := Option.some.inj H
    go_wp2
    go_ret
    exact ⟨qq10, qq1⟩
   ·replace c4 := Bool.eq_false_iff.mpr c4
    subst c4
    have H1 : (impl_cornersValid.l0 kj1 l0 (l0.length : Int) 0) = some r := by rw [if_neg (show ¬ (false = true) by decide)] at H; exact H
    clear H
    have H := H1
    clear H1
    have H' := Aside0.mk H
    clear H
    go_wp2
    go_loopg [15] kj1 (fun kq v15 w' => ∃ (x15_2 : Int), v15 = .int .i64 x15_2 ∧ Aside0 (impl_cornersValid.l0 kq l0 (l0.length : Int) x15_2 = some r) ∧ Aside0 (kq ≤ kj1) ∧ Aside0 (Below w.heap.size w w'))
    case atStart => exact ⟨(0), qq25, H', ⟨Nat.le_refl _⟩, ⟨qq1⟩⟩
    case round =>
     clear H'
     try clear p2
     try clear c3
     try clear c3b0
     try clear c3b1
     try clear c4
     try clear p2
     obtain ⟨x15_2, rfl, HA, HK2, HB⟩ := hrel
     cases gk with
     | zero => exact absurd HA.out (by simp [impl_cornersValid.l0])
     | succ k2 =>
      have H := HA.out
      clear HA
      simp only [impl_cornersValid.l0] at H
      by_cases c5 : x15_2 < (l0.length : Int)
      ·rw [if_pos c5] at H
       have c5b0 : decide (x15_2 < (l0.length : Int)) = true := decide_eq_true c5
       clear c5
       by_cases c6 : 0 ≤ x15_2
       ·rw [if_pos c6] at H
        have c6b0 : decide (0 ≤ x15_2) = true := decide_eq_true c6
        clear c6
        by_cases c7 : x15_2 < (l0.length : Int)
        ·rw [if_pos c7] at H
         have c7b0 : decide (x15_2 < (l0.length : Int)) = true := decide_eq_true c7
         clear c7
         replace H := Option.bind_eq_some_iff.mp H
         obtain ⟨t218, A80, H⟩ := H
         replace H : (if t218 = true then (impl_cornersValid.l0 k2 l0 (l0.length : Int) (wrap64 (x15_2 + 1))) else (some false)) = some r := H
         have A8 := Aside0.mk A80
         clear A80
         by_cases c9 : t218 = true
         ·subst c9
          have H1 : (impl_cornersValid.l0 k2 l0 (l0.length : Int) (wrap64 (x15_2 + 1))) = some r := by rw [if_pos rfl] at H; exact H
          clear H
          have H := H1
          clear H1
          have H' := Aside0.mk H
          clear H
          have p216 : 0 ≤ (x15_2 : Int) := of_decide_eq_true qq14
          have q216 : x15_2 < (l0.length : Int) := of_decide_eq_true qq14
          obtain ⟨ad216, e216, hx216_0, hx216_1⟩ := at_T32 HR0.out x15_2 p216 q216
          cases e216
          replace hx216_0 := (HB.out.cell (World.block_lt_of_cell? w _ hx216_0)).trans hx216_0
          replace hx216_1 := (HB.out.cell (World.block_lt_of_cell? w _ hx216_1)).trans hx216_1
          replace p216 := eq_true p216
          replace q216 := eq_true q216
          go_wp2_with (first | ((with_reducible refine gate_dst (N := 4) rfl ?_); (try (refine gate_guard (by rfl) ?_; dsimp only)); refine box_event ?hg (N := 4) ?hd (cs := #[.int .i64 0, .int .i64 0]) (t := 32) ?hr ?_; (case hd => rfl); (case hg => rfl); (case hr => exact qq22); intro gb217 hg w10 hbox hb; have n0_ := Aside0.mk (below_step qq1 hb); have n1_ := Aside0.mk (hbox); have n2_ := Aside0.mk ((qq35 : w.heap.size ≤ gb217)); have n3_ := Aside0.mk ((qq35 : w.heap.size ≤ gb217)); clear HB; have HB := n0_; have BK217 := n1_; have GW217 := n2_; have GE217 := n3_; clear n0_ n1_ n2_ n3_; clear hb hbox hg; have hcz11_0 : w10.cell? ⟨gb217, 0, none⟩ = some (.int .i64 0) := (blk_cell BK217.out 0).trans rfl; have hcz11_1 : w10.cell? ⟨gb217, 1, none⟩ = some (.int .i64 0) := (blk_cell BK217.out 1).trans rfl; have hfz11_0 := blk_frozen BK217.out 0; have hfz11_1 := blk_frozen BK217.out 1) | ((with_reducible refine gate_callee (f := 23) rfl ?_); refine goesL_ (some 20) rfl rfl Try.func23 (by kernel_rfl) rfl #[.agg #[.int .i64 ((rd_T32 l0 x15_2).f0), .int .i64 ((rd_T32 l0 x15_2).f1)]] rfl qq3 ?_; (with_reducible refine (impl_PointValid.calls ((rd_T32 l0 x15_2).f0) ((rd_T32 l0 x15_2).f1) true _ A8.out).mono ?_); rintro e w12 ⟨rfl, hb⟩; refine ⟨_, rfl, ?_⟩; have n0_ := Aside0.mk (blk_below (g := gb217) (o := .cells #[.int .i64 ((rd_T32 l0 x15_2).f0), .int .i64 ((rd_T32 l0 x15_2).f1)] 32 (0, 0)) qq50 hb); have n1_ := Aside0.mk (below_step (qq7 HB.out GE217.out) hb); clear BK217; clear HB; have BK217 := n0_; have HB := n1_; clear n0_ n1_; (try clear hb); (try clear hb2); (try clear hk); (try clear hi)))
          go_roundg k2
          case measure => have := HJ1.out; have := HK2.out; omega
          case rel => exact ⟨(wrap64 (x15_2 + 1)), qq25, H', ⟨by have := HJ1.out; have := HK2.out; omega⟩, ⟨qq7 HB.out GE217.out⟩⟩
         ·replace c9 := Bool.eq_false_iff.mpr c9
          subst c9
          have H1 : (some false) = some r := by rw [if_neg (show ¬ (false = true) by decide)] at H; exact H
          clear H
          have H := H1
          clear H1
          obtain rfl := Option.some.inj H
          have p216 : 0 ≤ (x15_2 : Int) := of_decide_eq_true qq14
          have q216 : x15_2 < (l0.length : Int) := of_decide_eq_true qq14
          obtain ⟨ad216, e216, hx216_0, hx216_1⟩ := at_T32 HR0.out x15_2 p216 q216
          cases e216
          replace hx216_0 := (HB.out.cell (World.block_lt_of_cell? w _ hx216_0)).trans hx216_0
          replace hx216_1 := (HB.out.cell (World.block_lt_of_cell? w _ hx216_1)).trans hx216_1
          replace p216 := eq_true p216
          replace q216 := eq_true q216
          go_wp2_with (first | ((with_reducible refine gate_dst (N := 4) rfl ?_); (try (refine gate_guard (by rfl) ?_; dsimp only)); refine box_event ?hg (N := 4) ?hd (cs := #[.int .i64 0, .int .i64 0]) (t := 32) ?hr ?_; (case hd => rfl); (case hg => rfl); (case hr => exact qq22); intro gb217 hg w13 hbox hb; have n0_ := Aside0.mk (below_step qq1 hb); have n1_ := Aside0.mk (hbox); have n2_ := Aside0.mk ((qq35 : w.heap.size ≤ gb217)); have n3_ := Aside0.mk ((qq35 : w.heap.size ≤ gb217)); clear HB; have HB := n0_; have BK217 := n1_; have GW217 := n2_; have GE217 := n3_; clear n0_ n1_ n2_ n3_; clear hb hbox hg; have hcz14_0 : w13.cell? ⟨gb217, 0, none⟩ = some (.int .i64 0) := (blk_cell BK217.out 0).trans rfl; have hcz14_1 : w13.cell? ⟨gb217, 1, none⟩ = some (.int .i64 0) := (blk_cell BK217.out 1).trans rfl; have hfz14_0 := blk_frozen BK217.out 0; have hfz14_1 := blk_frozen BK217.out 1) | ((with_reducible refine gate_callee (f := 23) rfl ?_); refine goesL_ (some 20) rfl rfl Try.func23 (by kernel_rfl) rfl #[.agg #[.int .i64 ((rd_T32 l0 x15_2).f0), .int .i64 ((rd_T32 l0 x15_2).f1)]] rfl qq3 ?_; (with_reducible refine (impl_PointValid.calls ((rd_T32 l0 x15_2).f0) ((rd_T32 l0 x15_2).f1) false _ A8.out).mono ?_); rintro e w15 ⟨rfl, hb⟩; refine ⟨_, rfl, ?_⟩; have n0_ := Aside0.mk (blk_below (g := gb217) (o := .cells #[.int .i64 ((rd_T32 l0 x15_2).f0), .int .i64 ((rd_T32 l0 x15_2).f1)] 32 (0, 0)) qq50 hb); have n1_ := Aside0.mk (below_step (qq7 HB.out GE217.out) hb); clear BK217; clear HB; have BK217 := n0_; have HB := n1_; clear n0_ n1_; (try clear hb); (try clear hb2); (try clear hk); (try clear hi)))
          go_ret
          exact ⟨qq10, qq7 HB.out GE217.out⟩
        ·rw [if_neg c7] at H
         exact absurd H (by simp)
       ·rw [if_neg c6] at H
        exact absurd H (by simp)
      ·rw [if_neg c5] at H
       have c5b0 : decide (x15_2 < (l0.length : Int)) = false := decide_eq_false c5
       clear c5
       obtain rfl := Option.some.inj H
       go_wp2
       go_ret
       exact ⟨qq10, qq1⟩

end Go.Proofs.Ytgdhgncdpmalcaa.Q
namespace Go.Proofs.Ytgdhgncdpmalcaa.Ring
open Go.RowKit Go.Proofs.Ytgdhgncdpmalcaa.Q Go.Proofs.YtgdhgncdpmalcaaW.PrintWords Go.Proofs.YtgdhgncdpmalcaaW.PrintLast Go.Proofs.YtgdhgncdpmalcaaW.PrintMore
set_option linter.unusedVariables false
set_option linter.unusedSimpArgs false

abbrev Pt := S32
def at_ (l : List Pt) (j : Nat) : Pt := l.getD j z32
def nxt (l : List Pt) (j : Nat) : Pt := at_ l ((j + 1) % l.length)

/-- A block of cells that nobody has marked. -/
def Plain (w : World) (b : Nat) : Prop := ∃ cs t, w.heap[b]? = some (.cells cs t (0, 0))
theorem Plain.setCell {w : World} {b : Nat} (h : Plain w b) (p : Addr) (v : Value) : Plain (w.setCell p v) b := by
  obtain ⟨cs, t, h⟩ := h
  by_cases e : b = p.block
  · subst e
    have hlt := (Array.getElem?_eq_some_iff.1 h).1
    refine ⟨if p.spot.isSome then cs else cs.setIfInBounds p.off v, t, ?_⟩
    simp [World.setCell, Array.getElem?_modify, h]
  · exact ⟨cs, t, (Below.heap_setCell w p v b e).trans h⟩
theorem Plain.alloc {w : World} {b : Nat} (h : Plain w b) (o : Obj) : Plain (w.alloc o) b := by
  obtain ⟨cs, t, h⟩ := h
  exact ⟨cs, t, (Below.heap_alloc w o b (Array.getElem?_eq_some_iff.1 h).1).trans h⟩
theorem Plain.new (w : World) (cs : Array Value) (t : TypeId) : Plain (w.alloc (.cells cs t)) w.heap.size := ⟨cs, t, by show (w.heap.push _)[w.heap.size]? = _; simp⟩
theorem Plain.below {w w1 : World} {top b : Nat} (h : Plain w b) (hb : Below top w w1) (hl : b < top) : Plain w1 b := by
  obtain ⟨cs, t, h⟩ := h
  exact ⟨cs, t, (hb.block b hl).trans h⟩

/-- Corner j of the list l lies in block bs j and points to the next one. -/
structure Ring (w : World) (top : Nat) (bs : Nat → Nat) (l : List Pt) : Prop where
  pos : 3 ≤ l.length
  most : l.length ≤ 12
  lt : ∀ j, j < l.length → bs j < top
  inj : ∀ i j, i < l.length → j < l.length → bs i = bs j → i = j
  x : ∀ j, j < l.length → w.cell? ⟨bs j, 0, none⟩ = some (.int .i64 (at_ l j).f0)
  y : ∀ j, j < l.length → w.cell? ⟨bs j, 1, none⟩ = some (.int .i64 (at_ l j).f1)
  next : ∀ j, j < l.length → w.cell? ⟨bs j, 2, none⟩ = some (.pointer (some ⟨bs ((j + 1) % l.length), 0, none⟩))
  blk : ∀ j, j < l.length → Plain w (bs j)

theorem Ring.below {w w1 : World} {top : Nat} {bs : Nat → Nat} {l : List Pt} (h : Ring w top bs l) (hb : Below top w w1) : Ring w1 top bs l :=
  ⟨h.pos, h.most, h.lt, h.inj, fun j hj => (hb.cell (p := ⟨bs j, 0, none⟩) (h.lt j hj)).trans (h.x j hj), fun j hj => (hb.cell (p := ⟨bs j, 1, none⟩) (h.lt j hj)).trans (h.y j hj),
    fun j hj => (hb.cell (p := ⟨bs j, 2, none⟩) (h.lt j hj)).trans (h.next j hj), fun j hj => (h.blk j hj).below hb (h.lt j hj)⟩
theorem Ring.mono {w : World} {top top' : Nat} {bs : Nat → Nat} {l : List Pt} (h : Ring w top bs l) (ht : top ≤ top') : Ring w top' bs l :=
  { h with lt := fun j hj => Nat.lt_of_lt_of_le (h.lt j hj) ht }

/-- The chain so far: k + 1 corners, the last one of which points nowhere. -/
structure Chain (w : World) (lo : Nat) (bs : Nat → Nat) (l : List Pt) (k : Nat) : Prop where
  lt : ∀ j, j ≤ k → lo ≤ bs j ∧ bs j < w.heap.size
  inj : ∀ i j, i ≤ k → j ≤ k → bs i = bs j → i = j
  x : ∀ j, j ≤ k → w.cell? ⟨bs j, 0, none⟩ = some (.int .i64 (at_ l j).f0)
  y : ∀ j, j ≤ k → w.cell? ⟨bs j, 1, none⟩ = some (.int .i64 (at_ l j).f1)
  next : ∀ j, j < k → w.cell? ⟨bs j, 2, none⟩ = some (.pointer (some ⟨bs (j + 1), 0, none⟩))
  last : w.cell? ⟨bs k, 2, none⟩ = some (.pointer none)
  free : ∀ j, j ≤ k → w.frozen? ⟨bs j, 2, none⟩ = false
  blk : ∀ j, j ≤ k → Plain w (bs j)

theorem bcell {W w1 : World} (hb : Below W.heap.size W w1) : (∀ b o, b < W.heap.size → w1.cell? ⟨b, o, none⟩ = W.cell? ⟨b, o, none⟩) ∧ (∀ b o, b < W.heap.size → w1.frozen? ⟨b, o, none⟩ = W.frozen? ⟨b, o, none⟩) :=
  ⟨fun b o h => hb.cell (p := ⟨b, o, none⟩) h, fun b o h => hb.frozen (p := ⟨b, o, none⟩) h⟩
def Linked (w : World) (l : List Pt) (e : Ending) (w' : World) : Prop := ∃ bs, e = .returned (.tuple #[.agg #[.pointer (some ⟨bs 0, 0, none⟩), .int .i64 l.length], .bool true]) ∧ Ring w' w'.heap.size bs l ∧ (∀ j, j < l.length → w.heap.size ≤ bs j) ∧ Below w.heap.size w w'
theorem add_pos (a : Addr) {n : Nat} (h : 0 < n) : a.add n = ⟨a.block, a.off + n, none⟩ := by unfold Addr.add; rw [if_neg (by omega)]
theorem size_setCell_ (w : World) (a : Addr) (v : Value) : (w.setCell a v).heap.size = w.heap.size := by simp
theorem at_rd (l : List Pt) (j : Nat) : rd_T32 l (j : Int) = at_ l j := by unfold rd_T32 at_; rw [Int.toNat_natCast]
theorem Chain.first {w : World} {x y : Int} {l : List Pt} (hx : (at_ l 0).f0 = x) (hy : (at_ l 0).f1 = y) :
    Chain (w.alloc (.cells #[.int .i64 x, .int .i64 y, .pointer none] 75)) w.heap.size (fun _ => w.heap.size) l 0 := by
  refine ⟨fun j hj => ⟨Nat.le_refl _, by simp⟩, fun i j hi hj _ => by omega, fun j hj => ?_, fun j hj => ?_, fun j hj => by omega, ?_, fun j hj => ?_, fun j hj => Plain.new _ _ _⟩
  · obtain rfl : j = 0 := by omega
    rw [hx]; simp [go_sem]
  · obtain rfl : j = 0 := by omega
    rw [hy]; simp [go_sem]
  · simp [go_sem]
  · simp [go_sem]
theorem Chain.step {w w2 : World} {x y : Int} {lo j : Nat} {l : List Pt} {bs : Nat → Nat} {o : Obj} (h : Chain w lo bs l j) (hx : (at_ l (j + 1)).f0 = x) (hy : (at_ l (j + 1)).f1 = y) (hlo : lo ≤ w.heap.size)
    (e : w2 = (((w.setCell ⟨bs j, 2, none⟩ (.pointer (some ⟨w.heap.size + 1, 0, none⟩))).alloc o).alloc (.cells #[.int .i64 x, .int .i64 y, .pointer none] 75))) :
    Chain w2 lo (fun i => if i = j + 1 then w.heap.size + 1 else bs i) l (j + 1) := by
  have old : ∀ i, i ≤ j → bs i < w.heap.size := fun i hi => (h.lt i hi).2
  have hs : w2.heap.size = w.heap.size + 2 := by subst e; simp
  have keep : ∀ b o', b < w.heap.size → (b = bs j → o' ≠ 2) → w2.cell? ⟨b, o', none⟩ = w.cell? ⟨b, o', none⟩ := by
    intro b o' hb hne
    subst e
    rw [World.cell?_alloc_lt _ _ _ (by simp; omega), World.cell?_alloc_lt _ _ _ (by simpa using hb)]
    exact World.cell?_setCell_other _ _ _ _ (by intro e; injection e with e1 e2; exact hne e1.symm e2.symm)
  have keepF : ∀ b o', b < w.heap.size → w2.frozen? ⟨b, o', none⟩ = w.frozen? ⟨b, o', none⟩ := by
    intro b o' hb
    subst e
    have a1 := (((Below.refl w.heap.size (w.setCell ⟨bs j, 2, none⟩ (.pointer (some ⟨w.heap.size + 1, 0, none⟩)))).alloc (by simp) o).alloc (by simp) (.cells #[.int .i64 x, .int .i64 y, .pointer none] 75)).frozen (p := ⟨b, o', none⟩) hb
    rw [a1, World.frozen?_setCell]
  have new : ∀ o', w2.cell? ⟨w.heap.size + 1, o', none⟩ = (#[.int .i64 x, .int .i64 y, .pointer none] : Array Value)[o']? := by
    intro o'; subst e
    exact World.cell?_alloc_at _ _ _ _ (by simp)
  have newF : ∀ o', w2.frozen? ⟨w.heap.size + 1, o', none⟩ = false := by
    intro o'; subst e
    simp [go_sem]
  have own : w2.cell? ⟨bs j, 2, none⟩ = some (.pointer (some ⟨w.heap.size + 1, 0, none⟩)) := by
    subst e
    rw [World.cell?_alloc_lt _ _ _ (by have := old j (Nat.le_refl _); simp; omega), World.cell?_alloc_lt _ _ _ (by simpa using old j (Nat.le_refl _))]
    exact World.cell?_setCell_same _ _ _ h.last
  refine ⟨fun i hi => ?_, fun i i' hi hi' q => ?_, fun i hi => ?_, fun i hi => ?_, fun i hi => ?_, ?_, fun i hi => ?_, fun i hi => ?_⟩
  · rw [hs]
    by_cases c : i = j + 1
    · rw [if_pos c]; omega
    · rw [if_neg c]; have := h.lt i (by omega); omega
  · by_cases c : i = j + 1 <;> by_cases c' : i' = j + 1
    · omega
    · rw [if_pos c, if_neg c'] at q; have := old i' (by omega); omega
    · rw [if_neg c, if_pos c'] at q; have := old i (by omega); omega
    · rw [if_neg c, if_neg c'] at q; exact h.inj i i' (by omega) (by omega) q
  · by_cases c : i = j + 1
    · subst c; rw [if_pos rfl, new, hx]; rfl
    · rw [if_neg c, keep _ _ (old i (by omega)) (fun _ => by decide)]; exact h.x i (by omega)
  · by_cases c : i = j + 1
    · subst c; rw [if_pos rfl, new, hy]; rfl
    · rw [if_neg c, keep _ _ (old i (by omega)) (fun _ => by decide)]; exact h.y i (by omega)
  · by_cases c : i = j
    · subst c; rw [if_neg (by omega), if_pos rfl]; exact own
    · rw [if_neg (by omega), if_neg (by omega), keep _ _ (old i (by omega)) (fun q => absurd (h.inj i j (by omega) (by omega) q) c)]; exact h.next i (by omega)
  · rw [if_pos rfl, new]; rfl
  · by_cases c : i = j + 1
    · subst c; rw [if_pos rfl]; exact newF _
    · rw [if_neg c, keepF _ _ (old i (by omega))]; exact h.free i (by omega)
  · subst e
    by_cases c : i = j + 1
    · rw [if_pos c]
      have := Plain.new ((w.setCell ⟨bs j, 2, none⟩ (.pointer (some ⟨w.heap.size + 1, 0, none⟩))).alloc o) #[.int .i64 x, .int .i64 y, .pointer none] 75
      rw [World.size_alloc, size_setCell_] at this
      exact this
    · rw [if_neg c]; exact (((h.blk i (by omega)).setCell _ _).alloc _).alloc _
theorem Chain.close {w w2 : World} {lo : Nat} {l : List Pt} {bs : Nat → Nat} (h : Chain w lo bs l (l.length - 1)) (h3 : 3 ≤ l.length) (h12 : l.length ≤ 12)
    (e : w2 = w.setCell ⟨bs (l.length - 1), 2, none⟩ (.pointer (some ⟨bs 0, 0, none⟩))) : Ring w2 w.heap.size bs l := by
  subst e
  refine ⟨h3, h12, fun j hj => (h.lt j (by omega)).2, fun i j hi hj q => h.inj i j (by omega) (by omega) q, fun j hj => ?_, fun j hj => ?_, fun j hj => ?_, fun j hj => (h.blk j (by omega)).setCell _ _⟩
  · rw [World.cell?_setCell_other _ _ _ _ (by intro e; injection e with e1 e2; exact absurd e2 (by decide))]; exact h.x j (by omega)
  · rw [World.cell?_setCell_other _ _ _ _ (by intro e; injection e with e1 e2; exact absurd e2 (by decide))]; exact h.y j (by omega)
  · by_cases c : j = l.length - 1
    · subst c
      rw [show l.length - 1 + 1 = l.length from by omega, Nat.mod_self]
      exact World.cell?_setCell_same _ _ _ h.last
    · rw [World.cell?_setCell_other _ _ _ _ (by intro e; injection e with e1 e2; exact c (h.inj _ _ (by omega) (by omega) e1.symm)), Nat.mod_eq_of_lt (by omega)]
      exact h.next j (by omega)
theorem Ring.setCell {w : World} {top : Nat} {bs : Nat → Nat} {l : List Pt} (h : Ring w top bs l) {p : Addr} (hne : ∀ j, j < l.length → bs j ≠ p.block) (v : Value) : Ring (w.setCell p v) top bs l :=
  ⟨h.pos, h.most, h.lt, h.inj, fun j hj => (World.cell?_setCell_far _ _ _ _ (fun e => hne j hj e.symm)).trans (h.x j hj), fun j hj => (World.cell?_setCell_far _ _ _ _ (fun e => hne j hj e.symm)).trans (h.y j hj),
    fun j hj => (World.cell?_setCell_far _ _ _ _ (fun e => hne j hj e.symm)).trans (h.next j hj), fun j hj => (h.blk j hj).setCell _ _⟩
set_option maxRecDepth 100000 in
set_option maxHeartbeats 2000000 in
theorem outline_yes (k : Nat) (A0 : Option Addr) (c0 : Nat) (l0 : List Pt) (w : World) (hr0 : Kd.C k32 w A0 l0.length l0) (hc0 : l0.length ≤ c0) (h : impl_cornersValid.f k l0 = some true)
    (h3 : 3 ≤ l0.length) (h12 : l0.length ≤ 12) :
    Calls Try.prog 43 #[.slice A0 l0.length c0] w (Linked w l0) := by
  obtain ⟨ad, rfl, hx0, hy0⟩ := at_T32 hr0 0 (by omega) (by omega)
  have e0 : ad.add (Int.toNat 0 * 2) = ad := by simp [Addr.add]
  rw [e0] at hx0 hy0
  have HR0 := Aside0.mk hr0
  clear e0
  have HC0 := Aside0.mk hc0
  have H := Aside0.mk h
  have l1 : (0 : Int) < l0.length := by omega
  have l2 : (1 : Int) ≤ l0.length := by omega
  have l3 : ¬ c0 = 1 := by omega
  have l4 : (1 : Int) ≤ c0 := by omega
  clear hr0 hc0 h
  go_enter Try.func43, Try.ntmps43
  go_wp2_with (go_at_call 47; refine (impl_cornersValid.calls k _ _ l0 true _ ?s1 ?s2 H.out).mono ?_; (case s1 => exact qq66); (case s2 => exact HC0.out); rintro e w1 ⟨rfl, hb⟩; have hz : w.heap.size + 1 ≤ w1.heap.size := qq60; have HB := Aside0.mk (((Below.refl w.heap.size w).alloc (Nat.le_refl _) _).trans (hb.mono (by simp))); replace hx0 := (HB.out.cell (World.block_lt_of_cell? w _ hx0)).trans hx0; replace hy0 := (HB.out.cell (World.block_lt_of_cell? w _ hy0)).trans hy0; obtain ⟨hc, hf⟩ := bcell hb; clear hb; simp only [World.size_alloc] at hc hf)
  have HC := Aside0.mk (show Chain (w1.alloc (.cells #[.int .i64 (rd_T32 l0 0).f0, .int .i64 (rd_T32 l0 0).f1, .pointer none] 75)) w1.heap.size (fun _ => w1.heap.size) l0 0 from Chain.first (by rw [← at_rd]; rfl) (by rw [← at_rd]; rfl))
  have HW := Aside0.mk (show Below w1.heap.size w1 (w1.alloc (.cells #[.int .i64 (rd_T32 l0 0).f0, .int .i64 (rd_T32 l0 0).f1, .pointer none] 75)) from (Below.refl _ _).alloc (Nat.le_refl _) _)
  go_loopw [5, 21] (fun v5 v21 wr => ∃ (j : Nat) (bs : Nat → Nat), j < l0.length ∧ v21 = .int .i64 j ∧ v5 = .pointer (some ⟨bs j, 0, none⟩) ∧ Aside0 (bs 0 = w1.heap.size) ∧ Aside0 (Chain wr w1.heap.size bs l0 j) ∧ Aside0 (Below w1.heap.size w1 wr)) (fun _ v21 _ => l0.length - (intOf v21).toNat)
  case atStart => exact ⟨0, fun _ => w1.heap.size, by omega, rfl, rfl, ⟨rfl⟩, HC, HW⟩
  case round =>
    clear HC HW
    obtain ⟨j, bs, hj, rfl, rfl, HB0, HC, HW⟩ := hrel
    by_cases hlt : j < l0.length - 1
    · obtain ⟨ad', e', hX0, hY0⟩ := at_T32 HR0.out ((j + 1 : Nat) : Int) (by omega) (by omega)
      cases e'
      rw [show ((j + 1 : Nat) : Int).toNat * 2 = 2 + j * 2 from by omega, add_pos ad (by omega)] at hX0 hY0
      dsimp only at hY0
      have hb2 : Below w.heap.size w wr := HB.out.trans (HW.out.mono (by omega))
      have hX : wr.cell? ⟨ad.block, ad.off + 2 + j * 2, none⟩ = some (.int .i64 (rd_T32 l0 ((j + 1 : Nat) : Int)).f0) := by
        rw [← hX0, Nat.add_assoc]; exact hb2.cell (World.block_lt_of_cell? w _ hX0)
      have hY : wr.cell? ⟨ad.block, ad.off + 2 + j * 2 + 1, none⟩ = some (.int .i64 (rd_T32 l0 ((j + 1 : Nat) : Int)).f1) := by
        rw [← hY0, Nat.add_assoc ad.off]; exact hb2.cell (World.block_lt_of_cell? w _ hY0)
      have hL := HC.out.last
      have hLf := HC.out.free j (Nat.le_refl _)
      have hLt := (HC.out.lt j (Nat.le_refl _)).2
      have hLn : ¬ wr.heap.size = bs j := by omega
      have hLn2 : ¬ wr.heap.size + 1 = bs j := by omega
      clear hX0 hY0 hb2 hc hf hx0 hy0
      rw [at_rd] at hX hY
      go_wp2
      go_roundw
      case rel => exact ⟨j + 1, fun i => if i = j + 1 then wr.heap.size + 1 else bs i, by omega, by go_num, by simp, ⟨by dsimp only; rw [if_neg (by omega)]; exact HB0.out⟩, ⟨Chain.step HC.out rfl rfl HW.out.size rfl⟩, ⟨((HW.out.setCell (p := ⟨bs j, 2, none⟩) (HC.out.lt j (Nat.le_refl _)).1 _).alloc (by simpa using HW.out.size) _).alloc (by have := HW.out.size; simp; omega) _⟩⟩
      case measure => simp [intOf]; omega
    · obtain rfl : j = l0.length - 1 := by omega
      have hL := HC.out.last
      have hLf := HC.out.free _ (Nat.le_refl _)
      have hLt := HC.out.lt _ (Nat.le_refl _)
      have hN : ¬ bs (l0.length - 1) = w.heap.size := by omega
      have r0 := (HW.out.cell (p := ⟨w.heap.size, 0, none⟩) (by dsimp only; omega)).trans (hc w.heap.size 0 (by omega))
      have r1 := (HW.out.cell (p := ⟨w.heap.size, 1, none⟩) (by dsimp only; omega)).trans (hc w.heap.size 1 (by omega))
      have q0 := (HW.out.frozen (p := ⟨w.heap.size, 0, none⟩) (by dsimp only; omega)).trans (hf w.heap.size 0 (by omega))
      have q1 := (HW.out.frozen (p := ⟨w.heap.size, 1, none⟩) (by dsimp only; omega)).trans (hf w.heap.size 1 (by omega))
      simp [go_sem] at r0 r1 q0 q1
      clear hc hf hx0 hy0
      go_wp2
      refine bodyPost_ret (v := .tuple #[.agg #[.pointer (some ⟨bs 0, 0, none⟩), .int .i64 l0.length], .bool true]) ?_ rfl ?_
      · have hB0 := HB0.out
        rw [hB0]
        simp [results, Try.results43, go_sem, r0, r1, hN, Ne.symm hN]
      · have hB0 := HB0.out
        have hlo := HC.out.lt
        rw [← hB0]
        refine ⟨bs, rfl, ?_, fun j hj => by have := (hlo j (by omega)).1; omega, ?_⟩
        · refine ((((Chain.close HC.out h3 h12 rfl).setCell (p := ⟨w.heap.size, 0, none⟩) (fun j hj => ?_) _).setCell (p := ⟨w.heap.size, 1, none⟩) (fun j hj => ?_) _).mono (by simp))
          all_goals (have := (hlo j (by omega)).1; dsimp only; omega)
        · exact (((HB.out.trans (HW.out.mono (by omega))).setCell (p := ⟨bs (l0.length - 1), 2, none⟩) (by have := (hlo _ (Nat.le_refl _)).1; dsimp only; omega) _).setCell (p := ⟨w.heap.size, 0, none⟩) (by simp) _).setCell (p := ⟨w.heap.size, 1, none⟩) (by simp) _
set_option maxRecDepth 100000 in
set_option maxHeartbeats 2000000 in
theorem outline_no (k : Nat) (A0 : Option Addr) (c0 : Nat) (l0 : List Pt) (w : World) (hr0 : Kd.C k32 w A0 l0.length l0) (hc0 : l0.length ≤ c0) (h : impl_cornersValid.f k l0 = some false) :
    Calls Try.prog 43 #[.slice A0 l0.length c0] w fun e w' => e = .returned (.tuple #[.agg #[.pointer none, .int .i64 0], .bool false]) ∧ Below w.heap.size w w' := by
  have HR0 := Aside0.mk hr0
  have HC0 := Aside0.mk hc0
  have H := Aside0.mk h
  clear hr0 hc0 h
  go_enter Try.func43, Try.ntmps43
  go_wp2_with (go_at_call 47; refine (impl_cornersValid.calls k _ _ l0 false _ ?s1 ?s2 H.out).mono ?_; (case s1 => exact qq66); (case s2 => exact HC0.out); rintro e w' ⟨rfl, hb⟩; have hz : w.heap.size + 1 ≤ w'.heap.size := qq60; have HB := Aside0.mk (((Below.refl w.heap.size w).alloc (Nat.le_refl _) _).trans (hb.mono (by simp))); obtain ⟨hc, hf⟩ := bcell hb; clear hb; simp only [World.size_alloc] at hc hf)
  refine bodyPost_ret (v := .tuple #[.agg #[.pointer none, .int .i64 0], .bool false]) ?_ rfl ⟨rfl, ?_⟩
  · have z1 := hc w.heap.size 0 (by omega)
    have z2 := hc w.heap.size 1 (by omega)
    simp [results, Try.results43, go_sem, z1, z2]
  · exact HB.out.setCell (by simp) _ |>.setCell (by simp) _

end Go.Proofs.Ytgdhgncdpmalcaa.Ring
namespace Go.Proofs.Ytgdhgncdpmalcaa.Ring
open Go.RowKit Go.Shelf Go.Proofs.Ytgdhgncdpmalcaa.Q Go.Proofs.YtgdhgncdpmalcaaW.PrintWords Go.Proofs.YtgdhgncdpmalcaaW.PrintLast Go.Proofs.YtgdhgncdpmalcaaW.PrintMore
set_option linter.unusedVariables false
set_option linter.unusedSimpArgs false
attribute [local go_sem] Oper.semAt_some
set_option maxRecDepth 100000 in
set_option maxHeartbeats 1000000 in
theorem corners_in (l : Nat) (J : Nat → World → Prop) (Jx : World → Prop) (top : Nat) (bs : Nat → Nat) (ps : List Pt) (W : World) (hR : Ring W top bs ps) (htop : top ≤ W.heap.size)
    (hJa : ∀ W1 o, J 0 W1 → J 0 (W1.alloc o))
    (hY : ∀ k W1, k < ps.length → J k W1 → Below top W W1 → YieldAt Fence.wide 0 Try.prog l #[.pointer (some ⟨bs k, 0, none⟩)] W1 (fun e W' => (e = .returned (.bool true) ∧ J (k + 1) W' ∧ Below top W1 W') ∨ (e = .returned (.bool false) ∧ Jx W')))
    (h0 : J 0 W) :
    CallsIn Fence.wide 0 Try.prog 61 #[.agg #[.pointer (some ⟨bs 0, 0, none⟩), .int .i64 ps.length], .func (.yield l) #[] #[]] W fun e W' => (∃ v, e = .returned v) ∧ (J ps.length W' ∨ Jx W') := by
  have h3 := hR.pos
  have h12 := hR.most
  have H0 := Aside0.mk (hJa _ (.cells #[.pointer (some ⟨bs 0, 0, none⟩), .int .i64 ps.length] 54) h0)
  have HB := Aside0.mk ((Below.refl top W).alloc htop (.cells #[.pointer (some ⟨bs 0, 0, none⟩), .int .i64 ps.length] 54))
  have HR := Aside0.mk hR
  have HT := Aside0.mk htop
  clear hR htop h0
  refine callsIn_of_wp Try.func61 rfl trivial ?_ rfl
  simp only [Try.ntmps61, List.size_toArray, List.length_cons, List.length_nil, Nat.reduceAdd, Nat.reduceSub, Array.replicate_succ, Array.replicate_zero, List.push_toArray, List.append_toArray, List.nil_append, List.cons_append]
  gi_wp2
  gi_loopw [4, 9] (fun v4 v9 wr => ∃ k : Nat, k ≤ ps.length ∧ v9 = .int .i64 k ∧ v4 = .pointer (some ⟨bs (k % ps.length), 0, none⟩) ∧ Aside0 (J k wr) ∧ Aside0 (Below top W wr)) (fun _ v9 _ => ps.length - (intOf v9).toNat)
  case atStart => exact ⟨0, by omega, rfl, by rw [Nat.zero_mod], H0, HB⟩
  case round =>
    clear H0 HB
    obtain ⟨k, hk, rfl, rfl, HJ, HB⟩ := hrel
    by_cases hlt : k < ps.length
    · obtain ⟨fn, tmps, assign, body, hy, hRd⟩ := hY k wr hlt HJ.out HB.out
      rw [Nat.mod_eq_of_lt hlt]
      gi_wp2
      refine ⟨rfl, hRd.mono ?_⟩
      rintro e W' (⟨rfl, hJ', hb'⟩ | ⟨rfl, hx'⟩)
      · have hn := (HR.out.below (HB.out.trans hb')).next k hlt
        gi_wp2
        go_roundw
        case rel => exact ⟨k + 1, by omega, by go_num, rfl, ⟨hJ'⟩, ⟨HB.out.trans hb'⟩⟩
        case measure => simp [intOf]; omega
      · gi_wp2
        refine bodyPost_ret (results_none rfl _ _ _) rfl ?_
        exact ⟨⟨_, rfl⟩, .inr hx'⟩
    · obtain rfl : k = ps.length := by omega
      gi_wp2
      go_end0
      exact ⟨⟨_, rfl⟩, .inl HJ.out⟩
/-- How the body of a round may be left. -/
def ringPost (B top : Nat) (I : Nat → World → Prop) (Ix : Code → World → Prop) (k : Nat) (W : World) : Exit → Act → World → Prop
  | .normal, _, W' => KeepsFrom B W W' ∧ Below top W W' ∧ I k W'
  | .ret, _, W' => KeepsFrom B W W' ∧ Ix .ret W'
  | .exit id, _, W' => KeepsFrom B W W' ∧ Ix (.exit id) W'
  | .goto t, _, W' => KeepsFrom B W W' ∧ Ix (.goto t) W'
  | .panic _, _, _ => False
  | .outgrown, _, _ => False

theorem zip_one (t : Array Value) (p : Tmp) (v : Value) : ((#[p].zip #[v]).foldl (fun tmps (t, a) => tmps.setIfInBounds t a) t) = t.setIfInBounds p v := by simp
/-- 'for c := range o.corners { .. }' over a ring: the rounds come in the corners' order. -/
theorem range_ring {g : Operand} {p : Tmp} {assign body : Code} {Q : Exit → Act → World → Prop} {a : Act} {w : World} (top : Nat) (bs : Nat → Nat) (ps : List Pt) (hR : Ring w top bs ps) (htop : top ≤ w.heap.size)
    (hg : a.eval g = .func (.func 61) #[.agg #[.pointer (some ⟨bs 0, 0, none⟩), .int .i64 ps.length]] #[])
    (I : Nat → World → Prop) (Ix : Code → World → Prop) (hI : OwnFrom w.heap.size I) (hIx : OwnFrom w.heap.size Ix) (h0 : I 0 w) (a₁ : Nat → Act)
    (hassign : ∀ (l k : Nat) (W : World) (K : Act → World → Prop), K (a₁ k) W →
      assign.wpIn (Fence.wide.inRound l) 0 Try.prog (Exit.then K (fun _ _ _ => False)) { tmps := a.tmps.setIfInBounds p (.pointer (some ⟨bs k, 0, none⟩)), defers := [] } W)
    (hbody : ∀ (l k : Nat) (W : World), k < ps.length → I k W → Below top w W → body.wpIn (Fence.wide.inRound l) 0 Try.prog (ringPost w.heap.size top I Ix (k + 1) W) (a₁ k) W)
    (hdone : ∀ (D : Nat) (W : World), w.heap.size ≤ D → I ps.length W → W.heap[D]? = some (.deferred (some [])) → Q .normal { a with defers := { target := .collected D, args := #[] } :: a.defers } W)
    (hstop : ∀ (D : Nat) (c : Code) (W : World), w.heap.size ≤ D → Ix c W → W.heap[D]? = some (.deferred (some [])) → c.wpIn Fence.wide 0 Try.prog Q { a with defers := { target := .collected D, args := #[] } :: a.defers } W) :
    (Code.rangeFunc g #[p] assign body).wpIn Fence.wide 0 Try.prog Q a w := by
  refine wpIn_rangeFunc fun fn _ => ?_
  obtain ⟨rec, hrec⟩ : ∃ rec : LoopState → Option Code → Loop, rec = fun st pe => { state := st, pending := pe, fn, tmps := a.tmps, params := #[p], assign, body, defers := w.heap.size } := ⟨_, rfl⟩
  obtain ⟨V, hV⟩ : ∃ V, (w.alloc (.deferred (some []))).alloc (.loop (rec .ready none)) = V := ⟨_, rfl⟩
  have vl : V.heap[w.heap.size + 1]? = some (.loop (rec .ready none)) := by
    have := World.alloc_heap_new (w.alloc (.deferred (some []))) (.loop (rec .ready none)); rw [World.size_alloc, hV] at this; exact this
  have vd : V.heap[w.heap.size]? = some (.deferred (some [])) := by
    rw [← hV]; exact (Below.heap_alloc _ _ _ (by simp)).trans (World.alloc_heap_new w _)
  have vb : Below top w V := by rw [← hV]; exact ((Below.refl _ w).alloc htop _).alloc (by simp; omega) _
  have vs : V.heap.size = w.heap.size + 2 := by rw [← hV]; simp
  have vI : I 0 V := by rw [← hV]; exact hI.alloc _ (hI.alloc _ h0)
  refine ⟨w.heap.size + 1, [{ target := .collected w.heap.size, args := #[] }], V, { target := .fn (.func 61) #[], args := #[.agg #[.pointer (some ⟨bs 0, 0, none⟩), .int .i64 ps.length], .func (.yield (w.heap.size + 1)) #[] #[]] }, V, 61,
    #[.agg #[.pointer (some ⟨bs 0, 0, none⟩), .int .i64 ps.length], .func (.yield (w.heap.size + 1)) #[] #[]], V, ?_, ?_, fun _ _ => trivial, ?_, ?_, ?_⟩
  · rw [← hV, hrec]; exact run_enterLoop_outer _ _ _ _ _
  · simp only [resolve, hg]; simp [go_sem]
  · simp [invoke, go_sem]
  · intro h; simp [Fence.wide] at h
  · have hl : ∀ {W : World} {o : Obj} {r : Nat}, W.heap[r]? = some o → r < W.heap.size := fun h => (Array.getElem?_eq_some_iff.1 h).1
    refine (corners_in (w.heap.size + 1) (fun k W => I k W ∧ W.heap[w.heap.size + 1]? = some (.loop (rec .ready none)) ∧ W.heap[w.heap.size]? = some (.deferred (some [])))
      (fun W => ∃ c, Ix c W ∧ W.heap[w.heap.size + 1]? = some (.loop (rec .done (some c))) ∧ W.heap[w.heap.size]? = some (.deferred (some [])))
      top bs ps V (hR.below vb) (by omega) ?_ ?_ ⟨vI, vl, vd⟩).mono ?_
    · rintro W1 o ⟨i1, l1, d1⟩
      exact ⟨hI.alloc _ i1, (Below.heap_alloc _ _ _ (hl l1)).trans l1, (Below.heap_alloc _ _ _ (hl d1)).trans d1⟩
    · rintro k W hk ⟨i1, l1, d1⟩ hb
      have hy := run_yield (P := Try.prog) (args := #[.pointer (some ⟨bs k, 0, none⟩)]) l1 (by rw [hrec]; rfl)
      rw [hrec] at hy
      dsimp only at hy
      rw [zip_one] at hy
      refine ⟨fn, _, assign, body, hy, roundIn_of_wpIn trivial (hassign _ k W _ ?_)⟩
      refine ⟨_, run_beginRound l1 (by rw [hrec]), ?_⟩
      obtain ⟨W2, hW2⟩ : ∃ W2, W.putObj (w.heap.size + 1) (.loop { rec .ready none with state := .busy }) = W2 := ⟨_, rfl⟩
      have l2 : W2.heap[w.heap.size + 1]? = some (.loop { rec .ready none with state := .busy }) := by rw [← hW2]; exact World.putObj_heap_same (hl l1)
      have d2 : W2.heap[w.heap.size]? = some (.deferred (some [])) := by rw [← hW2]; exact (World.putObj_heap_other (by omega)).trans d1
      have i2 : I k W2 := by rw [← hW2]; exact hI.putObj _ i1 (by omega) l1 rfl
      have b2 : Below top W W2 := by rw [← hW2]; exact belowK_b (w := w) htop _ _ _ _ (by omega) l1 rfl rfl
      rw [hW2]
      refine wpIn_mono (hbody _ k W2 hk i2 (vb.trans (hb.trans b2))) ?_
      have fin : ∀ (jump : Option Code) (W3 : World), KeepsFrom w.heap.size W2 W3 → ∃ W4, (Instr.endRound (w.heap.size + 1) jump).run Try.prog W3 = .ok (.bool jump.isNone) W4 ∧
          W4 = W3.putObj (w.heap.size + 1) (.loop (rec (if jump.isNone then .ready else .done) jump)) ∧ W3.heap[w.heap.size + 1]? = some (.loop { rec .ready none with state := .busy }) ∧
          W4.heap[w.heap.size + 1]? = some (.loop (rec (if jump.isNone then .ready else .done) jump)) ∧ W4.heap[w.heap.size]? = some (.deferred (some [])) := by
        intro jump W3 hk3
        have l3 := hk3.same _ _ (by omega) l2 rfl
        have d3 := hk3.same _ _ (Nat.le_refl _) d2 rfl
        have e3 := run_endRound (P := Try.prog) jump l3
        rw [hrec] at e3 l3 ⊢
        exact ⟨_, e3, rfl, l3, World.putObj_heap_same (hl l3), (World.putObj_heap_other (by omega)).trans d3⟩
      intro e a3 W3 hp
      cases e with
      | normal =>
        obtain ⟨hk3, hb3, hi3⟩ := hp
        obtain ⟨W4, hr, rfl, l3, l4, d4⟩ := fin none W3 hk3
        exact ⟨_, _, hr, .inl ⟨rfl, ⟨hI.putObj _ hi3 (by omega) l3 rfl, l4, d4⟩, b2.trans (hb3.trans (belowK_b (w := w) htop _ _ _ _ (by omega) l3 rfl rfl))⟩⟩
      | ret =>
        obtain ⟨hk3, hi3⟩ := hp
        obtain ⟨W4, hr, rfl, l3, l4, d4⟩ := fin (some .ret) W3 hk3
        exact ⟨_, _, hr, .inr ⟨rfl, .ret, hIx.putObj _ hi3 (by omega) l3 rfl, l4, d4⟩⟩
      | exit id =>
        obtain ⟨hk3, hi3⟩ := hp
        obtain ⟨W4, hr, rfl, l3, l4, d4⟩ := fin (some (.exit id)) W3 hk3
        exact ⟨_, _, hr, .inr ⟨rfl, .exit id, hIx.putObj _ hi3 (by omega) l3 rfl, l4, d4⟩⟩
      | goto t =>
        obtain ⟨hk3, hi3⟩ := hp
        obtain ⟨W4, hr, rfl, l3, l4, d4⟩ := fin (some (.goto t)) W3 hk3
        exact ⟨_, _, hr, .inr ⟨rfl, .goto t, hIx.putObj _ hi3 (by omega) l3 rfl, l4, d4⟩⟩
      | panic ch => exact hp.elim
      | outgrown => exact hp.elim
    · rintro e W2 ⟨⟨v, rfl⟩, (⟨hi, l2, d2⟩ | ⟨c, hi, l2, d2⟩)⟩
      · have er := run_endLoop (P := Try.prog) l2 (by rw [hrec]; simp)
        rw [hrec] at er
        exact ⟨none, _, er, hdone _ _ (Nat.le_refl _) (hI.putObj _ hi (by omega) l2 rfl) ((World.putObj_heap_other (by omega)).trans d2)⟩
      · have er := run_endLoop (P := Try.prog) l2 (by rw [hrec]; simp)
        rw [hrec] at er
        exact ⟨some c, _, er, hstop _ c _ (Nat.le_refl _) (hIx.putObj _ hi (by omega) l2 rfl) ((World.putObj_heap_other (by omega)).trans d2)⟩

end Go.Proofs.Ytgdhgncdpmalcaa.Ring
namespace Go.Proofs.Ytgdhgncdpmalcaa.Drawn
open Go Go.RowKit
set_option linter.unusedVariables false
set_option linter.unusedSimpArgs false

theorem put_comm {a : Act} {d d' : Option Tmp} {v v' : Value} (h : ∀ t, d = some t → d' ≠ some t) : (a.put d v).put d' v' = (a.put d' v').put d v := by
  cases d with
  | none => rfl
  | some t =>
    cases d' with
    | none => rfl
    | some t' =>
      have ht : t ≠ t' := fun e => h t rfl (by rw [e])
      simp only [Act.put]
      rw [Array.setIfInBounds_comm v v' ht]

/-- The frame behind the operations that are listed. -/
def fill : List (Option Tmp × Value) → List Bool → Act → Act
  | (d, v) :: r, b :: bs, a => fill r bs (if b then a.put d v else a)
  | _, _, a => a

theorem fill_put {d : Option Tmp} {v : Value} : ∀ (vs : List (Option Tmp × Value)) (L : List Bool) (a : Act), (∀ t, d = some t → t ∉ vs.filterMap (·.1)) → fill vs L (a.put d v) = (fill vs L a).put d v
  | [], L, a, _ => by cases L <;> rfl
  | (d', v') :: r, [], a, _ => rfl
  | (d', v') :: r, b :: bs, a, h => by
    simp only [fill]
    have h2 : ∀ t, d = some t → t ∉ r.filterMap (·.1) := fun t e hm => h t e (by cases d' <;> simp_all)
    cases b with
    | false => exact fill_put r bs a h2
    | true =>
      simp only [if_true]
      rw [put_comm (fun t e => by rintro rfl; exact h t e (by simp)), fill_put r bs _ h2]

theorem fill_set : ∀ (vs : List (Option Tmp × Value)) (L : List Bool) (a : Act) (i : Nat) (d : Option Tmp) (v : Value), (vs.filterMap (·.1)).Nodup → vs[i]? = some (d, v) → L[i]? = some false →
    fill vs (L.set i true) a = (fill vs L a).put d v
  | [], _, _, i, _, _, _, h, _ => by simp at h
  | _ :: _, [], _, i, _, _, _, _, h => by simp at h
  | (d', v') :: r, b :: bs, a, 0, d, v, hn, hv, hl => by
    simp only [List.getElem?_cons_zero, Option.some.injEq, Prod.mk.injEq] at hv hl
    obtain ⟨rfl, rfl⟩ := hv
    subst hl
    simp only [List.set_cons_zero, fill, if_true]
    refine fill_put r bs a (fun t e hm => ?_)
    subst e
    simp at hn hm
    obtain ⟨x, hx⟩ := hm
    exact hn.1 x hx
  | (d', v') :: r, b :: bs, a, i + 1, d, v, hn, hv, hl => by
    simp only [List.getElem?_cons_succ] at hv hl
    simp only [List.set_cons_succ, fill]
    exact fill_set r bs _ i d v (by cases d' <;> simp_all) hv hl

theorem eval_put_other {a : Act} {d : Option Tmp} {v : Value} {t : Tmp} (h : d ≠ some t) : (a.put d v).eval (.tmp t) = a.eval (.tmp t) := by
  cases d with
  | none => rfl
  | some t' =>
    have ht : t' ≠ t := fun e => h (by rw [e])
    simp only [Act.put, Act.eval]
    simp [Array.getD_eq_getD_getElem?, Array.getElem?_setIfInBounds_ne ht]
theorem fill_base {t : Tmp} : ∀ (vs : List (Option Tmp × Value)) (L : List Bool) (a : Act), t ∉ vs.filterMap (·.1) → (fill vs L a).eval (.tmp t) = a.eval (.tmp t)
  | [], L, a, _ => by cases L <;> rfl
  | (d', v') :: r, [], a, _ => rfl
  | (d', v') :: r, b :: bs, a, h => by
    simp only [fill]
    rw [fill_base r bs _ (fun hm => h (by cases d' <;> simp_all))]
    cases b with
    | false => rfl
    | true => exact eval_put_other (by rintro rfl; exact h (by simp))
theorem fill_size : ∀ (vs : List (Option Tmp × Value)) (L : List Bool) (a : Act), (fill vs L a).tmps.size = a.tmps.size
  | [], L, a => by cases L <;> rfl
  | (d', v') :: r, [], a => rfl
  | (d', v') :: r, b :: bs, a => by
    simp only [fill]
    rw [fill_size r bs]
    cases b <;> cases d' <;> simp [Act.put]
theorem fill_eval {vs : List (Option Tmp × Value)} {L : List Bool} {a : Act} {j : Nat} {t : Tmp} {v : Value} (hn : (vs.filterMap (·.1)).Nodup) (hv : vs[j]? = some (some t, v)) (hl : L[j]? = some true) (ht : t < a.tmps.size) :
    (fill vs L a).eval (.tmp t) = v := by
  have hj : j < L.length := (List.getElem?_eq_some_iff.1 hl).1
  have e : (L.set j false).set j true = L := by
    rw [List.set_set]
    apply List.ext_getElem? fun k => ?_
    by_cases c : j = k
    · subst c; rw [List.getElem?_set_self hj, hl]
    · rw [List.getElem?_set_ne c]
  have := fill_set vs (L.set j false) a j (some t) v hn hv (by rw [List.getElem?_set_self hj])
  rw [e] at this
  rw [this]
  simp only [Act.put, Act.eval]
  simp [Array.getD_eq_getD_getElem?, fill_size, ht]

theorem eval_tmp (a : Act) (t : Tmp) : a.eval (.tmp t) = a.tmps[t]?.getD undef := by simp [Act.eval]
theorem fill_at {vs : List (Option Tmp × Value)} {L : List Bool} {a : Act} {j : Nat} {t : Tmp} {v : Value} (hn : (vs.filterMap (·.1)).Nodup) (hv : vs[j]? = some (some t, v)) (hl : L[j]? = some true) (ht : t < a.tmps.size) :
    (fill vs L a).tmps[t]?.getD undef = v := by rw [← eval_tmp]; exact fill_eval hn hv hl ht
theorem fill_old {t : Tmp} {v : Value} (vs : List (Option Tmp × Value)) (L : List Bool) (a : Act) (h : t ∉ vs.filterMap (·.1)) (hv : a.tmps[t]?.getD undef = v) : (fill vs L a).tmps[t]?.getD undef = v := by
  rw [← eval_tmp, fill_base vs L a h, eval_tmp]; exact hv

theorem vs_at {V0 VS : List (Option Tmp × Value)} {i : Nat} {d d' : Option Tmp} {v v' : Value} (hVS : V0 = VS) (hv : VS[i]? = some (d', v)) (h0 : V0[i]? = some (d, v')) : v' = v := by
  rw [← hVS, h0] at hv
  exact (Prod.mk.inj (Option.some.inj hv)).2
theorem fill_get {V0 VS : List (Option Tmp × Value)} {L : List Bool} {a : Act} {j M : Nat} {t : Tmp} {v : Value} (hn : (VS.filterMap (·.1)).Nodup) (hVS : V0 = VS) (hM : M < a.tmps.size) (h0 : V0[j]? = some (some t, v)) (ht : Nat.ble t M = true) (hl : L[j]? = some true) :
    (fill VS L a).tmps[t]?.getD undef = v := fill_at hn (by rw [← hVS]; exact h0) hl (Nat.lt_of_le_of_lt (Nat.le_of_ble_eq_true ht) hM)
theorem fill_getB {β : Type} {V0 VS : β → List (Option Tmp × Value)} {B : β} {L : List Bool} {a : Act} {j M : Nat} {t : Tmp} {v : Value} (hn : ∀ B, ((VS B).filterMap (·.1)).Nodup) (hVS : V0 = VS) (hM : M < a.tmps.size) (h0 : (V0 B)[j]? = some (some t, v)) (ht : Nat.ble t M = true) (hl : L[j]? = some true) :
    (fill (VS B) L a).tmps[t]?.getD undef = v := fill_at (hn B) (by rw [← hVS]; exact h0) hl (Nat.lt_of_le_of_lt (Nat.le_of_ble_eq_true ht) hM)
theorem wanted_is {o : Oper} {ops : Array Oper} {tmps : Array Value} {j : Nat} {t : Tmp} {b want : Bool} (hg : o.guard = some (j, want)) (hd : (ops[j]?).bind (·.dst) = some t) (hv : tmps[t]?.getD undef = .bool b) : Region.wanted o (yielded ops tmps) = (b == want) := by
  unfold Region.wanted yielded
  rw [hg]
  dsimp only
  rw [hd]
  cases h : tmps[t]? with
  | none => rw [h] at hv; exact absurd hv (by simp [undef])
  | some v =>
    rw [h] at hv
    obtain rfl : v = .bool b := hv
    simp [h]
/-- The law: each operation, once those that it must wait for are done, yields its value and keeps what is said of the world. -/
theorem drawn_region {F : Fence} {n : Nat} {P : Program} {id : Nat} {ops : Array Oper} {Q : Exit → Act → World → Prop} {a0 : Act} {w0 : World} (hm : P.follows .mixedOrders = true)
    (hac : ∀ i o, ops[i]? = some o → ∀ e ∈ o.after, Region.binds .any e = true → e.on < i)
    (vs : List (Option Tmp × Value)) (hd : vs.map (·.1) = ops.toList.map (·.dst)) (hn : (vs.filterMap (·.1)).Nodup)
    (S : List Bool → World → Prop) (h0 : S (List.replicate ops.size false) w0.drew)
    (hstep : ∀ (i : Nat) (o : Oper) (v : Value) (L : List Bool) (w : World), ops[i]? = some o → vs[i]? = some (o.dst, v) → L.length = ops.size → L[i]? = some false → (∀ e ∈ o.after, Region.binds .any e = true → L[e.on]? = some true) →
      (∀ (j : Nat) (o' : Oper), ops[j]? = some o' → L[j]? = some true → ∀ e ∈ o'.after, Region.binds .any e = true → L[e.on]? = some true) → S L w →
      ∀ K : Act → World → Prop, (∀ w', S (L.set i true) w' → K ((fill vs L a0).put o.dst v) w') → wpOpIn F n P ops Q i K (fill vs L a0) w)
    (hend : ∀ w, S (List.replicate ops.size true) w → Q .normal (fill vs (List.replicate ops.size true) a0) w) :
    (Code.region id ops true).wpIn F n P Q a0 w0 := by
  refine wpIn_region_any hm ?_
  have hlen : vs.length = ops.size := by have := congrArg List.length hd; simpa using this
  have rdy : ∀ (L : List Bool) (i : Nat), i ∈ Region.ready .any ops L.toArray ↔ ∃ o, ops[i]? = some o ∧ L.getD i true = false ∧ (∀ e ∈ o.after, Region.binds .any e = true → L.getD e.on false = true) := by
    intro L i
    unfold Region.ready
    simp only [List.mem_filter, List.mem_range, Bool.and_eq_true, Array.getD_eq_getD_getElem?, List.getElem?_toArray, ← List.getD_eq_getElem?_getD]
    constructor
    · rintro ⟨hi, h1, h2⟩
      rw [Array.getElem?_eq_getElem hi] at h2 ⊢
      refine ⟨_, rfl, by simpa using h1, fun e he hb => ?_⟩
      simp only [Option.map_some, Option.getD_some] at h2
      have := Array.all_eq_true_iff_forall_mem.1 h2 e he
      simpa [hb] using this
    · rintro ⟨o, ho, h1, h2⟩
      refine ⟨(Array.getElem?_eq_some_iff.1 ho).1, by rw [h1]; rfl, ?_⟩
      rw [ho]
      simp only [Option.map_some, Option.getD_some]
      refine Array.all_eq_true_iff_forall_mem.2 fun e he => ?_
      cases hb : Region.binds .any e with
      | false => simp
      | true => have := h2 e he hb; rw [this]; rfl
  have full : ∀ (L : List Bool), L.length = ops.size → Region.ready .any ops L.toArray = [] → L = List.replicate ops.size true := by
    intro L hl hr
    refine List.eq_replicate_iff.2 ⟨hl, fun b hb => ?_⟩
    have all : ∀ i, i < ops.size → L.getD i false = true := by
      intro i
      induction i using Nat.strongRecOn with
      | _ i ih =>
        intro hi
        apply Classical.byContradiction
        intro hf
        have hi' : i < L.length := by omega
        have : i ∈ Region.ready .any ops L.toArray := (rdy L i).2 ⟨_, Array.getElem?_eq_getElem hi, by simp [List.getD_eq_getElem?_getD, hi'] at hf ⊢; exact hf, fun e he hb' => ih _ (hac i _ (Array.getElem?_eq_getElem hi) e he hb') (by have := hac i _ (Array.getElem?_eq_getElem hi) e he hb'; omega)⟩
        rw [hr] at this
        cases this
    obtain ⟨i, hi, rfl⟩ := List.getElem_of_mem hb
    have := all i (by omega)
    simpa [List.getD_eq_getElem?_getD, hi] using this
  have main : ∀ (fuel : Nat) (L : List Bool) (w : World), L.length = ops.size → L.countP (fun b => !b) ≤ fuel → (∀ (j : Nat) (o' : Oper), ops[j]? = some o' → L[j]? = some true → ∀ e ∈ o'.after, Region.binds .any e = true → L[e.on]? = some true) → S L w → wpAnyIn F n P .any ops Q fuel L.toArray (fill vs L a0) w := by
    intro fuel
    induction fuel with
    | zero =>
      intro L w hl hc hcl hS
      have e : Region.ready .any ops L.toArray = [] := by
        rw [List.eq_nil_iff_forall_not_mem]
        intro i hi
        obtain ⟨o, ho, h1, _⟩ := (rdy L i).1 hi
        have hi' : i < L.length := by rw [hl]; exact (Array.getElem?_eq_some_iff.1 ho).1
        have h3 := List.countP_eq_zero.1 (Nat.le_zero.1 hc) L[i] (List.getElem_mem hi')
        simp [List.getD_eq_getElem?_getD, hi'] at h1
        simp [h1] at h3
      refine ⟨e, ?_⟩
      have := full L hl e
      subst this
      exact hend w hS
    | succ fuel ih =>
      intro L w hl hc hcl hS
      refine ⟨fun e => ?_, fun i hi => ?_⟩
      · have := full L hl e
        subst this
        exact hend w hS
      · obtain ⟨o, ho, h1, h2⟩ := (rdy L i).1 hi
        have hi' : i < L.length := by rw [hl]; exact (Array.getElem?_eq_some_iff.1 ho).1
        have hli : L[i]? = some false := by simp [List.getD_eq_getElem?_getD, hi'] at h1; rw [List.getElem?_eq_getElem hi', h1]
        have hiv : i < vs.length := by omega
        obtain ⟨v, hv⟩ : ∃ v, vs[i]? = some (o.dst, v) := by
          have := congrArg (fun l => l[i]?) hd
          simp only [List.getElem?_map, List.getElem?_eq_getElem hiv, Array.getElem?_toList, ho, Option.map_some, Option.some.injEq] at this
          exact ⟨vs[i].2, by rw [List.getElem?_eq_getElem hiv, ← this]⟩
        have h2' : ∀ e ∈ o.after, Region.binds .any e = true → L[e.on]? = some true := fun e he hb => by
          have := h2 e he hb
          rw [List.getD_eq_getElem?_getD] at this
          cases hq : L[e.on]? with
          | none => rw [hq] at this; cases this
          | some b => rw [hq] at this; exact congrArg some this
        refine hstep i o v L w ho hv hl hli h2' hcl hS _ (fun w' hS' => ?_)
        · rw [← fill_set vs L a0 i o.dst v hn hv hli, List.setIfInBounds_toArray]
          refine ih (L.set i true) w' (by simpa using hl) ?_ (fun j o' ho' hj e he hb => ?_) hS'
          rotate_left
          · by_cases c : i = j
            · subst c
              obtain rfl : o = o' := by rw [ho] at ho'; exact Option.some.inj ho'
              have := h2' e he hb
              by_cases c2 : i = e.on
              · rw [← c2, List.getElem?_set_self hi']
              · rw [List.getElem?_set_ne c2]; exact this
            · rw [List.getElem?_set_ne c] at hj
              by_cases c2 : i = e.on
              · rw [← c2, List.getElem?_set_self hi']
              · rw [List.getElem?_set_ne c2]; exact hcl j o' ho' hj e he hb
          have hc2 : (L.set i true).countP (fun b => !b) + 1 = L.countP (fun b => !b) := by
            rw [List.countP_set hi']
            have hb : L[i] = false := by rw [List.getElem?_eq_getElem hi'] at hli; simpa using hli
            have hp : 0 < L.countP (fun b => !b) := List.countP_pos_iff.2 ⟨L[i], List.getElem_mem hi', by simp [hb]⟩
            simp [hb]; omega
          omega
  have := main ops.size (List.replicate ops.size false) w0.drew (by simp) (by rw [List.countP_replicate]; simp) (fun j o' _ hj => by rw [List.getElem?_replicate] at hj; split at hj <;> simp at hj) h0
  rw [List.toArray_replicate] at this
  have e0 : fill vs (List.replicate ops.size false) a0 = a0 := by
    have : ∀ (vs : List (Option Tmp × Value)) (k : Nat) (a : Act), fill vs (List.replicate k false) a = a := by
      intro vs
      induction vs with
      | nil => intro k a; cases k <;> rfl
      | cons x r ih => intro k a; cases k with
        | zero => rfl
        | succ k => obtain ⟨d, v⟩ := x; simp only [List.replicate_succ, fill]; exact ih k a
    exact this _ _ _
  rw [e0] at this
  exact this
theorem fill_skip : ∀ (vs : List (Option Tmp × Value)) (L : List Bool) (a : Act) (i : Nat) (x : Option Tmp × Value), L[i]? = some false → fill (vs.set i x) L a = fill vs L a
  | [], L, _, _, _, _ => by cases L <;> rfl
  | _ :: _, [], _, i, _, h => by simp at h
  | (d', v') :: r, b :: bs, a, 0, (d, v), h => by
    simp only [List.getElem?_cons_zero, Option.some.injEq] at h
    subst h
    rfl
  | (d', v') :: r, b :: bs, a, i + 1, x, h => by
    simp only [List.getElem?_cons_succ] at h
    simp only [List.set_cons_succ, fill]
    exact fill_skip r bs _ i x h

/-- The law where the values (addresses of new blocks) are known only as the operations are done. -/
theorem drawn_any {F : Fence} {n : Nat} {P : Program} {id : Nat} {ops : Array Oper} {Q : Exit → Act → World → Prop} {a0 : Act} {w0 : World} (hm : P.follows .mixedOrders = true)
    (hac : ∀ i o, ops[i]? = some o → ∀ e ∈ o.after, Region.binds .any e = true → e.on < i)
    (hn : (ops.toList.filterMap (·.dst)).Nodup)
    (V : List Bool → List (Option Tmp × Value) → World → Prop) (hV : ∀ L vs w, V L vs w → vs.map (·.1) = ops.toList.map (·.dst)) (vs0 : List (Option Tmp × Value)) (h0 : V (List.replicate ops.size false) vs0 w0.drew)
    (hstep : ∀ (i : Nat) (o : Oper) (vs : List (Option Tmp × Value)) (L : List Bool) (w : World), ops[i]? = some o → L.length = ops.size → L[i]? = some false → (∀ e ∈ o.after, Region.binds .any e = true → L[e.on]? = some true) →
      (∀ (j : Nat) (o' : Oper), ops[j]? = some o' → L[j]? = some true → ∀ e ∈ o'.after, Region.binds .any e = true → L[e.on]? = some true) → V L vs w →
      ∀ K : Act → World → Prop, (∀ v w', V (L.set i true) (vs.set i (o.dst, v)) w' → K ((fill vs L a0).put o.dst v) w') → wpOpIn F n P ops Q i K (fill vs L a0) w)
    (hend : ∀ vs w, V (List.replicate ops.size true) vs w → Q .normal (fill vs (List.replicate ops.size true) a0) w) :
    (Code.region id ops true).wpIn F n P Q a0 w0 := by
  refine wpIn_region_any hm ?_
  have hlen : ∀ L vs w, V L vs w → vs.length = ops.size := fun L vs w h => by have := congrArg List.length (hV L vs w h); simpa using this
  have rdy : ∀ (L : List Bool) (i : Nat), i ∈ Region.ready .any ops L.toArray ↔ ∃ o, ops[i]? = some o ∧ L.getD i true = false ∧ (∀ e ∈ o.after, Region.binds .any e = true → L.getD e.on false = true) := by
    intro L i
    unfold Region.ready
    simp only [List.mem_filter, List.mem_range, Bool.and_eq_true, Array.getD_eq_getD_getElem?, List.getElem?_toArray, ← List.getD_eq_getElem?_getD]
    constructor
    · rintro ⟨hi, h1, h2⟩
      rw [Array.getElem?_eq_getElem hi] at h2 ⊢
      refine ⟨_, rfl, by simpa using h1, fun e he hb => ?_⟩
      simp only [Option.map_some, Option.getD_some] at h2
      have := Array.all_eq_true_iff_forall_mem.1 h2 e he
      simpa [hb] using this
    · rintro ⟨o, ho, h1, h2⟩
      refine ⟨(Array.getElem?_eq_some_iff.1 ho).1, by rw [h1]; rfl, ?_⟩
      rw [ho]
      simp only [Option.map_some, Option.getD_some]
      refine Array.all_eq_true_iff_forall_mem.2 fun e he => ?_
      cases hb : Region.binds .any e with
      | false => simp
      | true => have := h2 e he hb; rw [this]; rfl
  have full : ∀ (L : List Bool), L.length = ops.size → Region.ready .any ops L.toArray = [] → L = List.replicate ops.size true := by
    intro L hl hr
    refine List.eq_replicate_iff.2 ⟨hl, fun b hb => ?_⟩
    have all : ∀ i, i < ops.size → L.getD i false = true := by
      intro i
      induction i using Nat.strongRecOn with
      | _ i ih =>
        intro hi
        apply Classical.byContradiction
        intro hf
        have hi' : i < L.length := by omega
        have : i ∈ Region.ready .any ops L.toArray := (rdy L i).2 ⟨_, Array.getElem?_eq_getElem hi, by simp [List.getD_eq_getElem?_getD, hi'] at hf ⊢; exact hf, fun e he hb' => ih _ (hac i _ (Array.getElem?_eq_getElem hi) e he hb') (by have := hac i _ (Array.getElem?_eq_getElem hi) e he hb'; omega)⟩
        rw [hr] at this
        cases this
    obtain ⟨i, hi, rfl⟩ := List.getElem_of_mem hb
    have := all i (by omega)
    simpa [List.getD_eq_getElem?_getD, hi] using this
  have main : ∀ (fuel : Nat) (L : List Bool) (vs : List (Option Tmp × Value)) (w : World), L.length = ops.size → L.countP (fun b => !b) ≤ fuel → (∀ (j : Nat) (o' : Oper), ops[j]? = some o' → L[j]? = some true → ∀ e ∈ o'.after, Region.binds .any e = true → L[e.on]? = some true) → V L vs w → wpAnyIn F n P .any ops Q fuel L.toArray (fill vs L a0) w := by
    intro fuel
    induction fuel with
    | zero =>
      intro L vs w hl hc hcl hS
      have e : Region.ready .any ops L.toArray = [] := by
        rw [List.eq_nil_iff_forall_not_mem]
        intro i hi
        obtain ⟨o, ho, h1, _⟩ := (rdy L i).1 hi
        have hi' : i < L.length := by rw [hl]; exact (Array.getElem?_eq_some_iff.1 ho).1
        have h3 := List.countP_eq_zero.1 (Nat.le_zero.1 hc) L[i] (List.getElem_mem hi')
        simp [List.getD_eq_getElem?_getD, hi'] at h1
        simp [h1] at h3
      refine ⟨e, ?_⟩
      have := full L hl e
      subst this
      exact hend vs w hS
    | succ fuel ih =>
      intro L vs w hl hc hcl hS
      refine ⟨fun e => ?_, fun i hi => ?_⟩
      · have := full L hl e
        subst this
        exact hend vs w hS
      · obtain ⟨o, ho, h1, h2⟩ := (rdy L i).1 hi
        have hi' : i < L.length := by rw [hl]; exact (Array.getElem?_eq_some_iff.1 ho).1
        have hli : L[i]? = some false := by simp [List.getD_eq_getElem?_getD, hi'] at h1; rw [List.getElem?_eq_getElem hi', h1]
        have h2' : ∀ e ∈ o.after, Region.binds .any e = true → L[e.on]? = some true := fun e he hb => by
          have := h2 e he hb
          rw [List.getD_eq_getElem?_getD] at this
          cases hq : L[e.on]? with
          | none => rw [hq] at this; cases this
          | some b => rw [hq] at this; exact congrArg some this
        have hnv : (vs.filterMap (·.1)).Nodup := by
          have e := congrArg (fun l => l.filterMap (fun x : Option Tmp => x)) (hV L vs w hS)
          simp only [List.filterMap_map] at e
          have e2 : vs.filterMap (·.1) = ops.toList.filterMap (·.dst) := e
          rw [e2]; exact hn
        have hiv : i < vs.length := by rw [hlen L vs w hS]; omega
        refine hstep i o vs L w ho hl hli h2' hcl hS _ (fun v w' hS' => ?_)
        · have hnv' : ((vs.set i (o.dst, v)).filterMap (·.1)).Nodup := by
            have e := congrArg (fun l => l.filterMap (fun x : Option Tmp => x)) (hV _ _ _ hS')
            simp only [List.filterMap_map] at e
            have e2 : (vs.set i (o.dst, v)).filterMap (·.1) = ops.toList.filterMap (·.dst) := e
            rw [e2]; exact hn
          rw [← fill_skip vs L a0 i (o.dst, v) hli, ← fill_set (vs.set i (o.dst, v)) L a0 i o.dst v hnv' (by rw [List.getElem?_set_self hiv]) hli, List.setIfInBounds_toArray]
          refine ih (L.set i true) (vs.set i (o.dst, v)) w' (by simpa using hl) ?_ (fun j o' ho' hj e he hb => ?_) hS'
          rotate_left
          · by_cases c : i = j
            · subst c
              obtain rfl : o = o' := by rw [ho] at ho'; exact Option.some.inj ho'
              have := h2' e he hb
              by_cases c2 : i = e.on
              · rw [← c2, List.getElem?_set_self hi']
              · rw [List.getElem?_set_ne c2]; exact this
            · rw [List.getElem?_set_ne c] at hj
              by_cases c2 : i = e.on
              · rw [← c2, List.getElem?_set_self hi']
              · rw [List.getElem?_set_ne c2]; exact hcl j o' ho' hj e he hb
          have hc2 : (L.set i true).countP (fun b => !b) + 1 = L.countP (fun b => !b) := by
            rw [List.countP_set hi']
            have hb : L[i] = false := by rw [List.getElem?_eq_getElem hi'] at hli; simpa using hli
            have hp : 0 < L.countP (fun b => !b) := List.countP_pos_iff.2 ⟨L[i], List.getElem_mem hi', by simp [hb]⟩
            simp [hb]; omega
          omega
  have := main ops.size (List.replicate ops.size false) vs0 w0.drew (by simp) (by rw [List.countP_replicate]; simp) (fun j o' _ hj => by rw [List.getElem?_replicate] at hj; split at hj <;> simp at hj) h0
  rw [List.toArray_replicate] at this
  have e0 : fill vs0 (List.replicate ops.size false) a0 = a0 := by
    have : ∀ (vs : List (Option Tmp × Value)) (k : Nat) (a : Act), fill vs (List.replicate k false) a = a := by
      intro vs
      induction vs with
      | nil => intro k a; cases k <;> rfl
      | cons x r ih => intro k a; cases k with
        | zero => rfl
        | succ k => obtain ⟨d, v⟩ := x; simp only [List.replicate_succ, fill]; exact ih k a
    exact this _ _ _
  rw [e0] at this
  exact this
/-- The same, where one operation, the last one, waits for all the others and turns what is said of the world. -/
theorem drawn_last {F : Fence} {n : Nat} {P : Program} {id : Nat} {ops : Array Oper} {Q : Exit → Act → World → Prop} {a0 : Act} {w0 : World} (hm : P.follows .mixedOrders = true)
    (hac : ∀ i o, ops[i]? = some o → ∀ e ∈ o.after, Region.binds .any e = true → e.on < i)
    (m : Nat) (hsz : ops.size = m + 1) (hall : ∀ o, ops[m]? = some o → ∀ j, j < m → ∃ e ∈ o.after, Region.binds .any e = true ∧ e.on = j)
    (vs : List (Option Tmp × Value)) (hd : vs.map (·.1) = ops.toList.map (·.dst)) (hn : (vs.filterMap (·.1)).Nodup)
    (S S' : World → Prop) (h0 : S w0.drew)
    (hstep : ∀ (i : Nat) (o : Oper) (v : Value) (L : List Bool) (w : World), i < m → ops[i]? = some o → vs[i]? = some (o.dst, v) → (∀ e ∈ o.after, Region.binds .any e = true → L[e.on]? = some true) → S w →
      ∀ K : Act → World → Prop, (∀ w', S w' → K ((fill vs L a0).put o.dst v) w') → wpOpIn F n P ops Q i K (fill vs L a0) w)
    (hlast : ∀ (o : Oper) (v : Value) (L : List Bool) (w : World), ops[m]? = some o → vs[m]? = some (o.dst, v) → (∀ j, j < m → L[j]? = some true) → S w →
      ∀ K : Act → World → Prop, (∀ w', S' w' → K ((fill vs L a0).put o.dst v) w') → wpOpIn F n P ops Q m K (fill vs L a0) w)
    (hend : ∀ w, S' w → Q .normal (fill vs (List.replicate ops.size true) a0) w) :
    (Code.region id ops true).wpIn F n P Q a0 w0 := by
  refine drawn_region hm hac vs hd hn (fun L w => if L[m]? = some true then S' w else S w) ?_ ?_ ?_
  · rw [if_neg (by rw [List.getElem?_replicate]; split <;> simp)]; exact h0
  · intro i o v L w ho hv hl hli hpre hcl hS K hK
    by_cases c : i = m
    · subst c
      rw [if_neg (by rw [hli]; simp)] at hS
      refine hlast o v L w ho hv (fun j hj => ?_) hS K (fun w' hS' => hK w' (by rw [List.getElem?_set_self (by omega)]; simpa using hS'))
      obtain ⟨e, he, hb, rfl⟩ := hall o ho j hj
      exact hpre e he hb
    · have him : i < m := by have := (Array.getElem?_eq_some_iff.1 ho).1; omega
      have hLm : ¬ L[m]? = some true := by
        intro hLm
        obtain ⟨om, hom⟩ : ∃ om, ops[m]? = some om := ⟨_, Array.getElem?_eq_getElem (by omega)⟩
        obtain ⟨e, he, hb, h2⟩ := hall om hom i him
        have := hcl m om hom hLm e he hb
        rw [h2, hli] at this
        simp at this
      rw [if_neg hLm] at hS
      refine hstep i o v L w him ho hv hpre hS K (fun w' hS' => hK w' ?_)
      rw [List.getElem?_set_ne c, if_neg hLm]; exact hS'
  · intro w hS
    rw [if_pos (by rw [List.getElem?_replicate]; simp; omega)] at hS
    exact hend w hS

/-- The same, where nothing that is said of the world turns. -/
theorem drawn_same {F : Fence} {n : Nat} {P : Program} {id : Nat} {ops : Array Oper} {Q : Exit → Act → World → Prop} {a0 : Act} {w0 : World} (hm : P.follows .mixedOrders = true)
    (hac : ∀ i o, ops[i]? = some o → ∀ e ∈ o.after, Region.binds .any e = true → e.on < i)
    (vs : List (Option Tmp × Value)) (hd : vs.map (·.1) = ops.toList.map (·.dst)) (hn : (vs.filterMap (·.1)).Nodup)
    (S : World → Prop) (h0 : S w0.drew)
    (hstep : ∀ (i : Nat) (o : Oper) (v : Value) (L : List Bool) (w : World), ops[i]? = some o → vs[i]? = some (o.dst, v) → (∀ e ∈ o.after, Region.binds .any e = true → L[e.on]? = some true) → S w →
      ∀ K : Act → World → Prop, (∀ w', S w' → K ((fill vs L a0).put o.dst v) w') → wpOpIn F n P ops Q i K (fill vs L a0) w)
    (hend : ∀ w, S w → Q .normal (fill vs (List.replicate ops.size true) a0) w) :
    (Code.region id ops true).wpIn F n P Q a0 w0 :=
  drawn_region hm hac vs hd hn (fun _ w => S w) h0 (fun i o v L w ho hv _ _ hpre _ hS K hK => hstep i o v L w ho hv hpre hS K hK) hend

/-- Each operation waits for earlier ones alone. -/
def early (ops : Array Oper) : Bool := (List.range ops.size).all fun i => match ops[i]? with | some o => o.after.all fun e => !Region.binds .any e || decide (e.on < i) | none => true
theorem early_spec {ops : Array Oper} (h : early ops = true) : ∀ i o, ops[i]? = some o → ∀ e ∈ o.after, Region.binds .any e = true → e.on < i := by
  intro i o ho e he hb
  have := List.all_eq_true.1 h i (List.mem_range.2 (Array.getElem?_eq_some_iff.1 ho).1)
  rw [ho] at this
  have := Array.all_eq_true_iff_forall_mem.1 this e he
  simpa [hb] using this
/-- The last one waits for all. -/
def waits (ops : Array Oper) (m : Nat) : Bool := match ops[m]? with | some o => (List.range m).all fun j => o.after.any fun e => Region.binds .any e && e.on == j | none => true
theorem waits_spec {ops : Array Oper} {m : Nat} (h : waits ops m = true) : ∀ o, ops[m]? = some o → ∀ j, j < m → ∃ e ∈ o.after, Region.binds .any e = true ∧ e.on = j := by
  intro o ho j hj
  unfold waits at h
  rw [ho] at h
  have := List.all_eq_true.1 h j (List.mem_range.2 hj)
  obtain ⟨e, he, hb⟩ := Array.any_eq_true'.1 this
  simp only [Bool.and_eq_true, beq_iff_eq] at hb
  exact ⟨e, he, hb.1, hb.2⟩

/-- The frame under a name. -/
theorem act_name {F : Fence} {n : Nat} {P : Program} {c : Code} {Q : Exit → Act → World → Prop} {a : Act} {w : World} (h : ∀ A0, a = A0 → c.wpIn F n P Q A0 w) : c.wpIn F n P Q a w := h a rfl

/-- A fence that lets all in. -/
def WideF (P : Program) (F : Fence) : Prop := (∀ f, F.fn f) ∧ F.depth.isSome = false ∧ ∀ f args w R, Calls P f args w R → CallsIn F 0 P f args w R
theorem wide_plain (P : Program) : WideF P Fence.wide := ⟨fun _ => trivial, rfl, fun _ _ _ _ h => callsIn_wide.2 h⟩
theorem wide_round (P : Program) (r : Nat) : WideF P (Fence.wide.inRound r) := ⟨fun _ => trivial, rfl, fun _ _ _ _ h => CallsIn.inRound r (callsIn_wide.2 h)⟩
section steps
variable {F : Fence} {P : Program} {ops : Array Oper} {Q : Exit → Act → World → Prop} {i : Nat} {o : Oper} {K : Act → World → Prop} {a : Act} {w w' : World} {v : Value}
theorem st_val (hW : WideF P F) (ho : ops[i]? = some o) (hd : ∀ c, o.op ≠ .defer c) (hg : Region.wanted o (yielded ops a.tmps) = true) (hr : (execOp a.eval o).run P w = .ok (.value v) w') (h : K (a.put o.dst v) w') : wpOpIn F 0 P ops Q i K a w := by
  unfold wpOpIn
  rw [ho]
  dsimp only
  rw [if_pos hg]
  refine ⟨fun f _ => hW.1 f, ?_⟩
  rw [Oper.semAt_eq _ _ _ hd, hr]
  exact h
theorem st_skip (hW : WideF P F) (ho : ops[i]? = some o) (hd : ∀ c, o.op ≠ .defer c) (hg : Region.wanted o (yielded ops a.tmps) = true) (hr : (execOp a.eval o).run P w = .ok .skip w') (h : K (a.put o.dst undef) w') : wpOpIn F 0 P ops Q i K a w := by
  unfold wpOpIn
  rw [ho]
  dsimp only
  rw [if_pos hg]
  refine ⟨fun f _ => hW.1 f, ?_⟩
  rw [Oper.semAt_eq _ _ _ hd, hr]
  exact h
theorem st_call {f : FuncId} {args : Array Value} (hW : WideF P F) (ho : ops[i]? = some o) (hd : ∀ c, o.op ≠ .defer c) (hg : Region.wanted o (yielded ops a.tmps) = true) (hr : (execOp a.eval o).run P w = .ok (.enter f args) w)
    (h : Calls P f args w (fun e w'' => e = .returned v ∧ K (a.put o.dst v) w'')) : wpOpIn F 0 P ops Q i K a w := by
  unfold wpOpIn
  rw [ho]
  dsimp only
  rw [if_pos hg]
  refine ⟨fun f _ => hW.1 f, ?_⟩
  rw [Oper.semAt_eq _ _ _ hd, hr]
  refine ⟨fun h0 => (by rw [hW.2.1] at h0; exact absurd h0 (by decide)), (hW.2.2 _ _ _ _ h).mono ?_⟩
  rintro e w'' ⟨rfl, hK⟩
  exact hK
theorem st_unwanted (hW : WideF P F) (ho : ops[i]? = some o) (hg : Region.wanted o (yielded ops a.tmps) = false) (h : K (a.put o.dst undef) w) : wpOpIn F 0 P ops Q i K a w := by
  unfold wpOpIn
  rw [ho]
  dsimp only
  rw [if_neg (by rw [hg]; simp)]
  exact ⟨fun f _ => hW.1 f, h⟩
end steps
/-- New boxes of two numbers each, as far as they are laid (al) and filled (st). -/
structure Boxes (base : Nat) (S : World → Prop) (m : Nat) (al st : Nat → Nat) (P : Nat → Int × Int) (L : List Bool) (B : Nat → Nat) (w : World) : Prop where
  s : S w
  sz : base ≤ w.heap.size
  box : ∀ t, t < m → L[al t]? = some true → base ≤ B t ∧ B t < w.heap.size ∧ w.frozen? ⟨B t, 0, none⟩ = false ∧ w.frozen? ⟨B t, 1, none⟩ = false ∧ (∃ u, w.cell? ⟨B t, 0, none⟩ = some u) ∧ (∃ u, w.cell? ⟨B t, 1, none⟩ = some u) ∧
    (L[st t]? = some true → w.cell? ⟨B t, 0, none⟩ = some (.int .i64 (P t).1) ∧ w.cell? ⟨B t, 1, none⟩ = some (.int .i64 (P t).2))
  ne : ∀ t t', t < m → t' < m → t ≠ t' → L[al t]? = some true → L[al t']? = some true → B t ≠ B t'
section boxes
variable {base : Nat} {S : World → Prop} {m : Nat} {al st : Nat → Nat} {P : Nat → Int × Int} {L : List Bool} {B : Nat → Nat} {w : World}
theorem Boxes.keep (h : Boxes base S m al st P L B w) {i : Nat} (h1 : ∀ t, t < m → al t ≠ i) (h2 : ∀ t, t < m → st t ≠ i) : Boxes base S m al st P (L.set i true) B w :=
  ⟨h.s, h.sz, fun t ht hl => by
    rw [List.getElem?_set_ne (Ne.symm (h1 t ht))] at hl
    obtain ⟨a, b, c, d, e, f, g⟩ := h.box t ht hl
    exact ⟨a, b, c, d, e, f, fun hs => g (by rwa [List.getElem?_set_ne (Ne.symm (h2 t ht))] at hs)⟩,
   fun t t' ht ht' hne a b => h.ne t t' ht ht' hne (by rwa [List.getElem?_set_ne (Ne.symm (h1 t ht))] at a) (by rwa [List.getElem?_set_ne (Ne.symm (h1 t' ht'))] at b)⟩
theorem Boxes.alloc (h : Boxes base S m al st P L B w) {r : Nat} (hr : r < m) (hal : ∀ t, t < m → t ≠ r → al t ≠ al r) (hst : ∀ t, t < m → st t ≠ al r) (hno : L[st r]? ≠ some true) (T : TypeId) (hS : S (w.alloc (.cells #[.int .i64 0, .int .i64 0] T))) :
    Boxes base S m al st P (L.set (al r) true) (fun t => if t = r then w.heap.size else B t) (w.alloc (.cells #[.int .i64 0, .int .i64 0] T)) := by
  refine ⟨hS, by have := h.sz; simp; omega, fun t ht hl => ?_, fun t t' ht ht' hne a b => ?_⟩
  · by_cases c : t = r
    · subst c
      rw [if_pos rfl]
      refine ⟨h.sz, by simp, by simp [go_sem], by simp [go_sem], ⟨.int .i64 0, by simp [go_sem]⟩, ⟨.int .i64 0, by simp [go_sem]⟩, fun hs => ?_⟩
      rw [List.getElem?_set_ne (Ne.symm (hst t ht))] at hs
      exact absurd hs hno
    · rw [if_neg c]
      rw [List.getElem?_set_ne (Ne.symm (hal t ht c))] at hl
      obtain ⟨a, b, c1, d, ⟨u, e⟩, ⟨u', f⟩, g⟩ := h.box t ht hl
      have k := Below.alloc (Below.refl w.heap.size w) (Nat.le_refl _) (.cells #[.int .i64 0, .int .i64 0] T)
      have k0 := k.cell (p := ⟨B t, 0, none⟩) b
      have k1 := k.cell (p := ⟨B t, 1, none⟩) b
      refine ⟨a, by simp; omega, (k.frozen (p := ⟨B t, 0, none⟩) b).trans c1, (k.frozen (p := ⟨B t, 1, none⟩) b).trans d, ⟨u, k0.trans e⟩, ⟨u', k1.trans f⟩, fun hs => ?_⟩
      rw [List.getElem?_set_ne (Ne.symm (hst t ht))] at hs
      obtain ⟨g1, g2⟩ := g hs
      exact ⟨k0.trans g1, k1.trans g2⟩
  · have old : ∀ s, s < m → s ≠ r → (L.set (al r) true)[al s]? = some true → L[al s]? = some true := fun s hs c q => by rwa [List.getElem?_set_ne (Ne.symm (hal s hs c))] at q
    by_cases c : t = r <;> by_cases c' : t' = r
    · omega
    · rw [if_pos c, if_neg c']; have := (h.box t' ht' (old t' ht' c' b)).2.1; omega
    · rw [if_neg c, if_pos c']; have := (h.box t ht (old t ht c a)).2.1; omega
    · rw [if_neg c, if_neg c']; exact h.ne t t' ht ht' hne (old t ht c a) (old t' ht' c' b)
theorem Boxes.store (h : Boxes base S m al st P L B w) {r : Nat} (hr : r < m) (hst : ∀ t, t < m → t ≠ r → st t ≠ st r) (hal : ∀ t, t < m → al t ≠ st r) (hl : L[al r]? = some true)
    (hS : ∀ w' p v, base ≤ p.block → S w' → S (w'.setCell p v)) :
    Boxes base S m al st P (L.set (st r) true) B ((w.setCell ⟨B r, 0, none⟩ (.int .i64 (P r).1)).setCell ⟨B r, 1, none⟩ (.int .i64 (P r).2)) := by
  obtain ⟨a0, b0, c0, d0, ⟨u0, e0⟩, ⟨u1, e1⟩, _⟩ := h.box r hr hl
  refine ⟨hS _ _ _ a0 (hS _ _ _ a0 h.s), by simpa using h.sz, fun t ht hlt => ?_, fun t t' ht ht' hne a b => h.ne t t' ht ht' hne (by rwa [List.getElem?_set_ne (Ne.symm (hal t ht))] at a) (by rwa [List.getElem?_set_ne (Ne.symm (hal t' ht'))] at b)⟩
  rw [List.getElem?_set_ne (Ne.symm (hal t ht))] at hlt
  obtain ⟨a, b, c, d, ⟨u, e⟩, ⟨u', f⟩, g⟩ := h.box t ht hlt
  by_cases q : t = r
  · subst q
    have k0 : ((w.setCell ⟨B t, 0, none⟩ (.int .i64 (P t).1)).setCell ⟨B t, 1, none⟩ (.int .i64 (P t).2)).cell? ⟨B t, 0, none⟩ = some (.int .i64 (P t).1) := by
      rw [World.cell?_setCell_other _ _ _ _ (by intro z; injection z with z1 z2; exact absurd z2 (by decide))]
      exact World.cell?_setCell_same _ _ _ e
    have k1 : ((w.setCell ⟨B t, 0, none⟩ (.int .i64 (P t).1)).setCell ⟨B t, 1, none⟩ (.int .i64 (P t).2)).cell? ⟨B t, 1, none⟩ = some (.int .i64 (P t).2) :=
      World.cell?_setCell_same _ _ _ (u := u') (by rw [World.cell?_setCell_other _ _ _ _ (by intro z; injection z with z1 z2; exact absurd z2 (by decide))]; exact f)
    exact ⟨a, by simpa using b, by simpa using c, by simpa using d, ⟨_, k0⟩, ⟨_, k1⟩, fun _ => ⟨k0, k1⟩⟩
  · have ne := h.ne r t hr ht (Ne.symm q) hl hlt
    have k : ∀ o, ((w.setCell ⟨B r, 0, none⟩ (.int .i64 (P r).1)).setCell ⟨B r, 1, none⟩ (.int .i64 (P r).2)).cell? ⟨B t, o, none⟩ = w.cell? ⟨B t, o, none⟩ := fun o => by
      rw [World.cell?_setCell_other _ _ _ _ (by intro z; injection z with z1 z2; exact ne z1), World.cell?_setCell_other _ _ _ _ (by intro z; injection z with z1 z2; exact ne z1)]
    refine ⟨a, by simpa using b, by simpa using c, by simpa using d, ⟨u, (k 0).trans e⟩, ⟨u', (k 1).trans f⟩, fun hs => ?_⟩
    rw [List.getElem?_set_ne (Ne.symm (hst t ht q))] at hs
    obtain ⟨g1, g2⟩ := g hs
    exact ⟨(k 0).trans g1, (k 1).trans g2⟩
theorem Boxes.start (hS : S w) (hsz : base ≤ w.heap.size) (n : Nat) : Boxes base S m al st P (List.replicate n false) B w := by
  have no : ∀ i : Nat, (List.replicate n false)[i]? ≠ some true := fun i => by rw [List.getElem?_replicate]; split <;> simp
  exact ⟨hS, hsz, fun t _ hl => absurd hl (no _), fun t t' _ _ _ a _ => absurd a (no _)⟩
end boxes
theorem KeepsFrom.of_below {B : Nat} {w w' : World} (h : Below w.heap.size w w') : KeepsFrom B w w' :=
  ⟨h.size, fun k o _ hk _ => (h.block k (Array.getElem?_eq_some_iff.1 hk).1).trans hk⟩
end Go.Proofs.Ytgdhgncdpmalcaa.Drawn
namespace Go.Proofs.Ytgdhgncdpmalcaa.Pure
open Go.RowKit Go.Proofs.Ytgdhgncdpmalcaa.Q Go.Proofs.YtgdhgncdpmalcaaW.PrintWords Go.Proofs.YtgdhgncdpmalcaaW.PrintLast Go.Proofs.YtgdhgncdpmalcaaW.PrintMore

abbrev Pt := S32
theorem pw64 {x : Int} (h0 : -9223372036854775808 ≤ x) (h1 : x ≤ 9223372036854775807) : wrap64 x = x := by unfold wrap64; omega
section
variable {α : Type} (pre suf : List α) (y : α)
theorem len_midP : (pre.length : Int) < ((pre ++ y :: suf).length : Int) := by simp; omega
theorem app_midP : pre ++ y :: suf = (pre ++ [y]) ++ suf := by simp
theorem next_midP (h : pre.length < 4611686018427387904) : wrap64 ((pre.length : Int) + 1) = ((pre ++ [y]).length : Int) := by
  unfold wrap64; simp; omega
end
theorem rd_midP (pre suf : List Pt) (y : Pt) : rd_T32 (pre ++ y :: suf) (pre.length : Int) = y := by simp [rd_T32]

/-- A point in range. -/
def ptB (p : Pt) : Bool := decide ((-10000 ≤ p.f0 ∧ p.f0 ≤ 10000) ∧ -10000 ≤ p.f1 ∧ p.f1 ≤ 10000)
theorem ptB_iff {p : Pt} : ptB p = true ↔ (-10000 ≤ p.f0 ∧ p.f0 ≤ 10000) ∧ -10000 ≤ p.f1 ∧ p.f1 ≤ 10000 := by unfold ptB; rw [decide_eq_true_eq]
/-- Valid corners. -/
def cvB (l : List Pt) : Bool := decide (3 ≤ l.length ∧ l.length ≤ 12) && l.all ptB
theorem cvB_iff {l : List Pt} : cvB l = true ↔ (3 ≤ l.length ∧ l.length ≤ 12) ∧ ∀ p ∈ l, ptB p = true := by
  unfold cvB; rw [Bool.and_eq_true, decide_eq_true_eq, List.all_eq_true]
theorem pwithin_eq (a m : Int) (h0 : 0 ≤ m) (h1 : m ≤ 9223372036854775807) : impl_within.f a m = some (decide (-m ≤ a ∧ a ≤ m)) := by
  unfold impl_within.f
  rw [pw64 (by omega) (by omega)]
  by_cases h : -m ≤ a
  · rw [if_pos h]; congr 1; rw [decide_eq_decide]; omega
  · rw [if_neg h]; congr 1; symm; rw [decide_eq_false_iff_not]; omega
theorem impl_PtValid_eq (p : Pt) : impl_PointValid.f p.f0 p.f1 = some (ptB p) := by
  simp only [impl_PointValid.f, impl_pairOf.f, impl_pair_inRange.f, pwithin_eq _ 10000 (by omega) (by omega), Option.bind_some]
  unfold ptB
  by_cases h : -10000 ≤ p.f0 ∧ p.f0 ≤ 10000
  · rw [if_pos (by simpa using h)]; simp only [Option.bind_some]; congr 1; rw [decide_eq_decide]; exact ⟨fun q => ⟨h, q⟩, fun q => q.2⟩
  · rw [if_neg (by simpa using h)]; simp only [Option.bind_some]; congr 1; symm; rw [decide_eq_false_iff_not]; exact fun q => h q.1
theorem cornersValid_l0 (suf : List Pt) : ∀ (pre : List Pt) (k : Nat), suf.length < k → pre.length + suf.length < 4611686018427387904 →
    impl_cornersValid.l0 k (pre ++ suf) ((pre ++ suf).length : Int) (pre.length : Int) = some (suf.all ptB) := by
  induction suf with
  | nil =>
    intro pre k hk _
    obtain ⟨k, rfl⟩ : ∃ m, k = m + 1 := ⟨k - 1, by omega⟩
    simp [impl_cornersValid.l0]
  | cons y suf ih =>
    intro pre k hk hl
    simp only [List.length_cons] at hk hl
    obtain ⟨k, rfl⟩ : ∃ m, k = m + 1 := ⟨k - 1, by omega⟩
    rw [impl_cornersValid.l0, if_pos (len_midP _ _ _), if_pos (by omega), if_pos (len_midP _ _ _), rd_midP, impl_PtValid_eq]
    simp only [Option.bind_some, List.all_cons]
    by_cases h : ptB y = true
    · rw [if_pos h, next_midP pre y (by omega), app_midP pre suf y, ih (pre ++ [y]) k (by omega) (by simp; omega), h, Bool.true_and]
    · rw [if_neg h, Bool.eq_false_iff.2 h, Bool.false_and]
theorem cornersValid_eq (k : Nat) (l : List Pt) (hk : 20 < k) : impl_cornersValid.f k l = some (cvB l) := by
  obtain ⟨k, rfl⟩ : ∃ m, k = m + 1 := ⟨k - 1, by omega⟩
  unfold impl_cornersValid.f cvB
  by_cases h1 : (l.length : Int) < 3
  · rw [if_pos h1, decide_eq_false (by omega)]; simp [impl_cornersValid.j0]
  · rw [if_neg h1]
    simp only [impl_cornersValid.j0]
    by_cases h2 : (l.length : Int) > 12
    · rw [if_pos (by simpa using h2), decide_eq_false (by omega)]; simp
    · rw [if_neg (by simpa using h2), decide_eq_true (by omega), Bool.true_and]
      have := cornersValid_l0 l [] k (by omega) (by simp; omega)
      simpa using this
end Go.Proofs.Ytgdhgncdpmalcaa.Pure
namespace Go.Proofs.Ytgdhgncdpmalcaa.Ring
open Go.RowKit Go.Shelf Go.Proofs.Ytgdhgncdpmalcaa.Q Go.Proofs.Ytgdhgncdpmalcaa.Drawn Go.Proofs.YtgdhgncdpmalcaaW.PrintWords Go.Proofs.YtgdhgncdpmalcaaW.PrintLast Go.Proofs.YtgdhgncdpmalcaaW.PrintMore
set_option linter.unusedVariables false
set_option linter.unusedSimpArgs false
attribute [local go_sem] Oper.semAt_some

theorem cvB_len {l : List Pt} (h : Pure.cvB l = true) : 3 ≤ l.length ∧ l.length ≤ 12 := (Pure.cvB_iff.1 h).1
/-- A linked list of corners of l, as a value of an outline. -/
def LinkedV (w : World) (l : List Pt) (bs : Nat → Nat) (w' : World) : Prop := Ring w' w'.heap.size bs l ∧ (∀ j, j < l.length → w.heap.size ≤ bs j) ∧ Below w.heap.size w w'
def NoRing (w : World) (e : Ending) (w' : World) : Prop := e = .returned (.tuple #[.agg #[.pointer none, .int .i64 0], .bool false]) ∧ Below w.heap.size w w'
def IsRing (w : World) (l : List Pt) (e : Ending) (w' : World) : Prop := ∃ bs, e = .returned (.tuple #[.agg #[.pointer (some ⟨bs 0, 0, none⟩), .int .i64 l.length], .bool true]) ∧ LinkedV w l bs w'
theorem outline_is (A0 : Option Addr) (c0 : Nat) (l0 : List Pt) (w : World) (hr0 : Kd.C k32 w A0 l0.length l0) (hc0 : l0.length ≤ c0) (h : Pure.cvB l0 = true) :
    Calls Try.prog 43 #[.slice A0 l0.length c0] w (IsRing w l0) :=
  (outline_yes 21 A0 c0 l0 w hr0 hc0 ((Pure.cornersValid_eq 21 l0 (by decide)).trans (by rw [h])) (cvB_len h).1 (cvB_len h).2).mono fun e w' ⟨bs, he, hr, hl, hb⟩ => ⟨bs, he, hr, hl, hb⟩
theorem outline_isnt (A0 : Option Addr) (c0 : Nat) (l0 : List Pt) (w : World) (hr0 : Kd.C k32 w A0 l0.length l0) (hc0 : l0.length ≤ c0) (h : Pure.cvB l0 = false) :
    Calls Try.prog 43 #[.slice A0 l0.length c0] w (NoRing w) :=
  outline_no 21 A0 c0 l0 w hr0 hc0 ((Pure.cornersValid_eq 21 l0 (by decide)).trans (by rw [h]))
theorem at_new {w w1 : World} {cs : Array Value} {T : TypeId} (hb : Below (w.heap.size + 1) (w.alloc (.cells cs T)) w1) (o : Nat) : w1.cell? ⟨w.heap.size, o, none⟩ = cs[o]? ∧ w1.frozen? ⟨w.heap.size, o, none⟩ = (w.alloc (.cells cs T)).frozen? ⟨w.heap.size, o, none⟩ :=
  ⟨(hb.cell (p := ⟨w.heap.size, o, none⟩) (by dsimp only; omega)).trans (World.cell?_alloc_at _ _ _ _ rfl), hb.frozen (p := ⟨w.heap.size, o, none⟩) (by dsimp only; omega)⟩

end Go.Proofs.Ytgdhgncdpmalcaa.Ring
namespace Go.Proofs.Ytgdhgncdpmalcaa.Pure
open Go.RowKit Go.Proofs.Ytgdhgncdpmalcaa.Q Go.Proofs.YtgdhgncdpmalcaaW.PrintWords Go.Proofs.YtgdhgncdpmalcaaW.PrintLast Go.Proofs.YtgdhgncdpmalcaaW.PrintMore

theorem w64 {x : Int} (h0 : -9223372036854775808 ≤ x) (h1 : x ≤ 9223372036854775807) : wrap64 x = x := by
  unfold wrap64; omega

theorem mx_eq (a b : Int) : mx a b = max a b := by unfold mx; split <;> omega
theorem mn_eq (a b : Int) : mn a b = min a b := by unfold mn; split <;> omega

/-- A valid point. -/
def PV (x y : Int) : Bool := decide (-10000 ≤ x ∧ x ≤ 10000 ∧ -10000 ≤ y ∧ y ≤ 10000)
theorem PV_iff {x y : Int} : PV x y = true ↔ (-10000 ≤ x ∧ x ≤ 10000 ∧ -10000 ≤ y ∧ y ≤ 10000) := by simp [PV]

theorem spec_l6In_eq (a b c : Int) : spec_l6In.f a b c = some (decide (b ≤ a ∧ a ≤ c)) := by
  unfold spec_l6In.f
  by_cases h : a ≥ b
  · rw [if_pos h]; congr 1; rw [decide_eq_decide]; omega
  · rw [if_neg h]; congr 1; symm; rw [decide_eq_false_iff_not]; omega

theorem impl_within_eq (a m : Int) (h0 : 0 ≤ m) (h1 : m ≤ 9223372036854775807) : impl_within.f a m = some (decide (-m ≤ a ∧ a ≤ m)) := by
  unfold impl_within.f
  rw [w64 (by omega) (by omega)]
  by_cases h : -m ≤ a
  · rw [if_pos h]; congr 1; rw [decide_eq_decide]; omega
  · rw [if_neg h]; congr 1; symm; rw [decide_eq_false_iff_not]; omega

theorem impl_inRange_eq (x y m : Int) (h0 : 0 ≤ m) (h1 : m ≤ 9223372036854775807) : impl_pair_inRange.f x y m = some (decide (-m ≤ x ∧ x ≤ m ∧ -m ≤ y ∧ y ≤ m)) := by
  simp only [impl_pair_inRange.f, impl_within_eq _ _ h0 h1, Option.bind_some]
  by_cases h : (-m ≤ x ∧ x ≤ m)
  · simp [h]
  · rw [if_neg (by simpa using h)]; congr 1; symm; rw [decide_eq_false_iff_not]; omega

theorem impl_PointValid_eq (x y : Int) : impl_PointValid.f x y = some (PV x y) := by
  simp only [impl_PointValid.f, impl_pairOf.f, Option.bind_some]
  rw [impl_inRange_eq _ _ _ (by omega) (by omega)]
  rfl

theorem mul_bd {x y m n : Int} (hx : -m ≤ x ∧ x ≤ m) (hy : -n ≤ y ∧ y ≤ n) (hm : 0 ≤ m) (hn : 0 ≤ n) : -(m * n) ≤ x * y ∧ x * y ≤ m * n := by
  have h1 : x.natAbs ≤ m.toNat := by omega
  have h2 : y.natAbs ≤ n.toNat := by omega
  have h3 : (x * y).natAbs ≤ m.toNat * n.toNat := by rw [Int.natAbs_mul]; exact Nat.mul_le_mul h1 h2
  have h4 : ((m.toNat * n.toNat : Nat) : Int) = m * n := by rw [Int.natCast_mul, Int.toNat_of_nonneg hm, Int.toNat_of_nonneg hn]
  omega

end Go.Proofs.Ytgdhgncdpmalcaa.Pure
namespace Go.Proofs.Ytgdhgncdpmalcaa.Q
open Go.RowKit Go.Proofs.YtgdhgncdpmalcaaW.PrintWords Go.Proofs.YtgdhgncdpmalcaaW.PrintLast Go.Proofs.YtgdhgncdpmalcaaW.PrintMore
attribute [local go_sem] max2_int min2_int max_two min_two max_three min_three max_four min_four
set_option linter.unusedVariables false
set_option linter.unusedSimpArgs false

/-! ### spec_l2Cross: function 75 -/
def spec_l2Cross.f (a0_0 : Int) (a0_1 : Int) (a1_0 : Int) (a1_1 : Int) : Option (Int) := some (wrap64 ((wrap64 (a0_0 * a1_1)) - (wrap64 (a0_1 * a1_0))))
set_option maxHeartbeats 8000000 in
set_option maxRecDepth 100000 in
theorem spec_l2Cross.calls (a0_0 : Int) (a0_1 : Int) (a1_0 : Int) (a1_1 : Int) (r : Int) (w : World) (h : spec_l2Cross.f a0_0 a0_1 a1_0 a1_1 = some r) :
  Calls Try.prog 75 #[.agg #[.int .i64 a0_0, .int .i64 a0_1], .agg #[.int .i64 a1_0, .int .i64 a1_1]] w fun e w' => e = .returned (.int .i64 r) ∧ Below w.heap.size w w' := by
 have hu32 := Try.underlying32
 have HB := Aside0.mk (Below.refl w.heap.size w)
 have H : (some (wrap64 ((wrap64 (a0_0 * a1_1)) - (wrap64 (a0_1 * a1_0))))) = some r := h
 clear h
 obtain rfl := Option.some.inj H
 go_enter Try.func75, Try.ntmps75
 go_wp2_with (first | ((with_reducible refine gate_dst (N := 2) rfl ?_); refine box_event ?hg (N := 2) ?hd (cs := #[.int .i64 a0_0, .int .i64 a0_1]) (t := 32) ?hr ?_; (case hd => rfl); (case hg => rfl); (case hr => exact qq22); intro gb221 hg w3 hbox hb; have n0_ := Aside0.mk (below_step qq1 hb); have n1_ := Aside0.mk (hbox); have n2_ := Aside0.mk ((qq35 : w.heap.size ≤ gb221)); have n3_ := Aside0.mk ((qq35 : w.heap.size ≤ gb221)); clear HB; have HB := n0_; have BK221 := n1_; have GW221 := n2_; have GE221 := n3_; clear n0_ n1_ n2_ n3_; clear hb hbox hg) | ((with_reducible refine gate_dst (N := 3) rfl ?_); refine box_event ?hg (N := 3) ?hd (cs := #[.int .i64 a1_0, .int .i64 a1_1]) (t := 32) ?hr ?_; (case hd => rfl); (case hg => rfl); (case hr => exact qq22); intro gb222 hg w4 hbox hb; have n0_ := Aside0.mk (bbl_ BK221.out hb); have n1_ := Aside0.mk (below_step (qq7 HB.out GE221.out) hb); have n2_ := Aside0.mk (hbox); have n3_ := Aside0.mk ((qq43 HB.out GE221.out : w.heap.size ≤ gb222)); have n4_ := Aside0.mk ((qq43 HB.out GE221.out : w.heap.size ≤ gb222)); have n5_ := Aside0.mk ((qq31 BK221.out : gb221 ≠ gb222)); have n6_ := Aside0.mk ((qq32 BK221.out : gb222 ≠ gb221)); clear BK221; clear HB; have BK221 := n0_; have HB := n1_; have BK222 := n2_; have GW222 := n3_; have GE222 := n4_; have NB221_222 := n5_; have NB222_221 := n6_; clear n0_ n1_ n2_ n3_ n4_ n5_ n6_; clear hb hbox hg; have hnb5 := NB221_222.out; have hnc5 := NB222_221.out; have hcz6_0 : w4.cell? ⟨gb221, 0, none⟩ = some (.int .i64 a0_0) := (blk_cell BK221.out 0).trans rfl; have hcz6_1 : w4.cell? ⟨gb221, 1, none⟩ = some (.int .i64 a0_1) := (blk_cell BK221.out 1).trans rfl; have hfz6_0 := blk_frozen BK221.out 0; have hfz6_1 := blk_frozen BK221.out 1; have hcz7_0 : w4.cell? ⟨gb222, 0, none⟩ = some (.int .i64 a1_0) := (blk_cell BK222.out 0).trans rfl; have hcz7_1 : w4.cell? ⟨gb222, 1, none⟩ = some (.int .i64 a1_1) := (blk_cell BK222.out 1).trans rfl; have hfz7_0 := blk_frozen BK222.out 0; have hfz7_1 := blk_frozen BK222.out 1))
 go_ret
 exact ⟨qq10, qq13 HB.out GE221.out GE222.out⟩

/-! ### laws_begunAt: function 15 -/
/-! ### impl_signInt: function 60 -/
def impl_signInt.f (a0 : Int) : Option (Int) := if a0 < 0 then (some (-1)) else (if a0 > 0 then (some 1) else (some 0))
set_option maxHeartbeats 8000000 in
set_option maxRecDepth 100000 in
theorem impl_signInt.calls (a0 : Int) (r : Int) (w : World) (h : impl_signInt.f a0 = some r) :
  Calls Try.prog 60 #[.int .i64 a0] w fun e w' => e = .returned (.int .i64 r) ∧ Drawn0 w w' := by
 have H : (if a0 < 0 then (some (-1)) else (if a0 > 0 then (some 1) else (some 0))) = some r := h
 clear h
 by_cases c2 : a0 < 0
 ·rw [if_pos c2] at H
  have c2b0 : decide (a0 < 0) = true := decide_eq_true c2
  clear c2
  obtain rfl := Option.some.inj H
  go_enter Try.func60, Try.ntmps60
  go_wp2
  go_ret
  exact ⟨qq25, qq42⟩
 ·rw [if_neg c2] at H
  have c2b0 : decide (a0 < 0) = false := decide_eq_false c2
  clear c2
  by_cases c3 : a0 > 0
  ·rw [if_pos c3] at H
   have c3b0 : decide (0 < a0) = true := decide_eq_true c3
   clear c3
   obtain rfl := Option.some.inj H
   go_enter Try.func60, Try.ntmps60
   go_wp2
   go_ret
   exact ⟨qq25, qq42⟩
  ·rw [if_neg c3] at H
   have c3b0 : decide (0 < a0) = false := decide_eq_false c3
   clear c3
   obtain rfl := Option.some.inj H
   go_enter Try.func60, Try.ntmps60
   go_wp2
   go_ret
   exact ⟨qq25, qq42⟩

/-! ### impl_pair_minus: function 80 -/
def impl_pair_minus.f (a0_0 : Int) (a0_1 : Int) (a1_0 : Int) (a1_1 : Int) : Option (Int × Int) := some (wrap64 (a0_0 - a1_0), wrap64 (a0_1 - a1_1))
set_option maxHeartbeats 8000000 in
set_option maxRecDepth 100000 in
theorem impl_pair_minus.calls (a0_0 : Int) (a0_1 : Int) (a1_0 : Int) (a1_1 : Int) (r1 : Int) (r2 : Int) (w : World) (h : impl_pair_minus.f a0_0 a0_1 a1_0 a1_1 = some (r1, r2)) :
  Calls Try.prog 80 #[.agg #[.int .i64 a0_0, .int .i64 a0_1], .agg #[.int .i64 a1_0, .int .i64 a1_1]] w fun e w' => e = .returned (.agg #[.int .i64 r1, .int .i64 r2]) ∧ Below w.heap.size w w' := by
 have hu66 := Try.underlying66
 have HB := Aside0.mk (Below.refl w.heap.size w)
 have H : (some (wrap64 (a0_0 - a1_0), wrap64 (a0_1 - a1_1))) = some (r1, r2) := h
 clear h
 simp only [Option.some.injEq, Prod.mk.injEq] at H
 obtain ⟨rfl, rfl⟩ := H
 go_enter Try.func80, Try.ntmps80
 go_wp2_with (first | ((with_reducible refine gate_dst (N := 2) rfl ?_); refine box_event ?hg (N := 2) ?hd (cs := #[.int .i64 a0_0, .int .i64 a0_1]) (t := 66) ?hr ?_; (case hd => rfl); (case hg => rfl); (case hr => exact qq22); intro gb310 hg w3 hbox hb; have n0_ := Aside0.mk (below_step qq1 hb); have n1_ := Aside0.mk (hbox); have n2_ := Aside0.mk ((qq35 : w.heap.size ≤ gb310)); have n3_ := Aside0.mk ((qq35 : w.heap.size ≤ gb310)); clear HB; have HB := n0_; have BK310 := n1_; have GW310 := n2_; have GE310 := n3_; clear n0_ n1_ n2_ n3_; clear hb hbox hg) | ((with_reducible refine gate_dst (N := 3) rfl ?_); refine box_event ?hg (N := 3) ?hd (cs := #[.int .i64 a1_0, .int .i64 a1_1]) (t := 66) ?hr ?_; (case hd => rfl); (case hg => rfl); (case hr => exact qq22); intro gb311 hg w4 hbox hb; have n0_ := Aside0.mk (bbl_ BK310.out hb); have n1_ := Aside0.mk (below_step (qq7 HB.out GE310.out) hb); have n2_ := Aside0.mk (hbox); have n3_ := Aside0.mk ((qq43 HB.out GE310.out : w.heap.size ≤ gb311)); have n4_ := Aside0.mk ((qq43 HB.out GE310.out : w.heap.size ≤ gb311)); have n5_ := Aside0.mk ((qq31 BK310.out : gb310 ≠ gb311)); have n6_ := Aside0.mk ((qq32 BK310.out : gb311 ≠ gb310)); clear BK310; clear HB; have BK310 := n0_; have HB := n1_; have BK311 := n2_; have GW311 := n3_; have GE311 := n4_; have NB310_311 := n5_; have NB311_310 := n6_; clear n0_ n1_ n2_ n3_ n4_ n5_ n6_; clear hb hbox hg) | ((with_reducible refine gate_dst (N := 4) rfl ?_); refine box_event ?hg (N := 4) ?hd (cs := #[.int .i64 0, .int .i64 0]) (t := 66) ?hr ?_; (case hd => rfl); (case hg => rfl); (case hr => exact qq22); intro gb312 hg w5 hbox hb; have n0_ := Aside0.mk (bbl_ BK310.out hb); have n1_ := Aside0.mk (bbl_ BK311.out hb); have n2_ := Aside0.mk (below_step (qq13 HB.out GE310.out GE311.out) hb); have n3_ := Aside0.mk (hbox); have n4_ := Aside0.mk ((qq54 HB.out GE310.out GE311.out : w.heap.size ≤ gb312)); have n5_ := Aside0.mk ((qq54 HB.out GE310.out GE311.out : w.heap.size ≤ gb312)); have n6_ := Aside0.mk ((qq31 BK310.out : gb310 ≠ gb312)); have n7_ := Aside0.mk ((qq32 BK310.out : gb312 ≠ gb310)); have n8_ := Aside0.mk ((qq31 BK311.out : gb311 ≠ gb312)); have n9_ := Aside0.mk ((qq32 BK311.out : gb312 ≠ gb311)); clear BK310; clear BK311; clear HB; have BK310 := n0_; have BK311 := n1_; have HB := n2_; have BK312 := n3_; have GW312 := n4_; have GE312 := n5_; have NB310_312 := n6_; have NB312_310 := n7_; have NB311_312 := n8_; have NB312_311 := n9_; clear n0_ n1_ n2_ n3_ n4_ n5_ n6_ n7_ n8_ n9_; clear hb hbox hg; have hnb6 := NB310_311.out; have hnc6 := NB311_310.out; have hnb7 := NB310_312.out; have hnc7 := NB312_310.out; have hcz8_0 : w5.cell? ⟨gb310, 0, none⟩ = some (.int .i64 a0_0) := (blk_cell BK310.out 0).trans rfl; have hcz8_1 : w5.cell? ⟨gb310, 1, none⟩ = some (.int .i64 a0_1) := (blk_cell BK310.out 1).trans rfl; have hfz8_0 := blk_frozen BK310.out 0; have hfz8_1 := blk_frozen BK310.out 1; have hnb9 := NB311_312.out; have hnc9 := NB312_311.out; have hcz10_0 : w5.cell? ⟨gb311, 0, none⟩ = some (.int .i64 a1_0) := (blk_cell BK311.out 0).trans rfl; have hcz10_1 : w5.cell? ⟨gb311, 1, none⟩ = some (.int .i64 a1_1) := (blk_cell BK311.out 1).trans rfl; have hfz10_0 := blk_frozen BK311.out 0; have hfz10_1 := blk_frozen BK311.out 1; have hcz11_0 : w5.cell? ⟨gb312, 0, none⟩ = some (.int .i64 0) := (blk_cell BK312.out 0).trans rfl; have hcz11_1 : w5.cell? ⟨gb312, 1, none⟩ = some (.int .i64 0) := (blk_cell BK312.out 1).trans rfl; have hfz11_0 := blk_frozen BK312.out 0; have hfz11_1 := blk_frozen BK312.out 1))
 refine bodyPost_ret (results_cell_row rfl _ _ gb312 66 #[.int .i64 (wrap64 (a0_0 - a1_0)), .int .i64 (wrap64 (a0_1 - a1_1))] (0, 0) _ rfl (by (with_reducible repeat (first | refine blk_drewN ?_ _ | refine blk_drew ?_ | refine blk_alloc ?_ _)); refine blk_put (cs := #[.int .i64 (wrap64 (a0_0 - a1_0)), .int .i64 0]) ?_ 1 _ rfl; (with_reducible repeat (first | refine blk_drewN ?_ _ | refine blk_drew ?_ | refine blk_alloc ?_ _)); refine blk_put (cs := #[.int .i64 0, .int .i64 0]) ?_ 0 _ rfl; (with_reducible repeat (first | refine blk_drewN ?_ _ | refine blk_drew ?_ | refine blk_alloc ?_ _)); exact BK312.out) Try.underlying66 rfl (by kernel_rfl)) rfl ?_
 exact ⟨qq10, qq9 HB.out GE310.out GE311.out GE312.out⟩

/-! ### impl_between: function 85 -/
def impl_between.f (a0 : Int) (a1 : Int) (a2 : Int) : Option (Bool) := if (mn a0 a1) ≤ a2 then (some (decide (a2 ≤ (mx a0 a1)))) else (some false)
set_option maxHeartbeats 8000000 in
set_option maxRecDepth 100000 in
theorem impl_between.calls (a0 : Int) (a1 : Int) (a2 : Int) (r : Bool) (w : World) (h : impl_between.f a0 a1 a2 = some r) :
  Calls Try.prog 85 #[.int .i64 a0, .int .i64 a1, .int .i64 a2] w fun e w' => e = .returned (.bool r) ∧ Below w.heap.size w w' := by
 have HB := Aside0.mk (Below.refl w.heap.size w)
 have H : (if (mn a0 a1) ≤ a2 then (some (decide (a2 ≤ (mx a0 a1)))) else (some false)) = some r := h
 clear h
 obtain ⟨ji4, hji4⟩ : ∃ j_ : Int, (mn a0 a1) = j_ := ⟨_, rfl⟩
 replace H : (if (ji4) ≤ a2 then (some (decide (a2 ≤ (mx a0 a1)))) else (some false)) = some r := by first | (rw [hji4] at H; exact H) | (simp only [hji4] at H ⊢; exact H)
 have hji4_ : (if a1 < a0 then a1 else a0) = ji4 := hji4
 by_cases c5 : (ji4) ≤ a2
 ·rw [if_pos c5] at H
  have c5b0 : decide ((ji4) ≤ a2) = true := decide_eq_true c5
  clear c5
  obtain ⟨ji6, hji6⟩ : ∃ j_ : Int, (mx a0 a1) = j_ := ⟨_, rfl⟩
  replace H : (some (decide (a2 ≤ (ji6)))) = some r := by first | (rw [hji6] at H; exact H) | (simp only [hji6] at H ⊢; exact H)
  have hji6_ : (if a0 < a1 then a1 else a0) = ji6 := hji6
  obtain rfl := Option.some.inj H
  go_enter Try.func85, Try.ntmps85
  go_wp2
  go_ret
  exact ⟨by first | rfl | (simp [errW_none, errW_some] <;> rfl) | (simp only [← hji4, ← hji6]; first | rfl | (simp [errW_none, errW_some] <;> rfl)) | (simp [*, errW_none, errW_some] <;> rfl), qq1⟩
 ·rw [if_neg c5] at H
  have c5b0 : decide ((ji4) ≤ a2) = false := decide_eq_false c5
  clear c5
  obtain rfl := Option.some.inj H
  go_enter Try.func85, Try.ntmps85
  go_wp2
  go_ret
  exact ⟨by first | rfl | (simp [errW_none, errW_some] <;> rfl) | (simp only [← hji4]; first | rfl | (simp [errW_none, errW_some] <;> rfl)) | (simp [*, errW_none, errW_some] <;> rfl), qq1⟩

end Go.Proofs.Ytgdhgncdpmalcaa.Q
namespace Go.Proofs.Ytgdhgncdpmalcaa.Q
open Go.RowKit Go.Proofs.YtgdhgncdpmalcaaW.PrintWords Go.Proofs.YtgdhgncdpmalcaaW.PrintLast Go.Proofs.YtgdhgncdpmalcaaW.PrintMore
attribute [local go_sem] max2_int min2_int max_two min_two max_three min_three max_four min_four
set_option linter.unusedVariables false
set_option linter.unusedSimpArgs false

/-! ### impl_PointSide: function 62 -/
def impl_PointSide.j0 : Nat → Bool → Int → Int → Int → Int → Int → Int → Option (Int × Bool)
 | 0, _, _, _, _, _, _, _ => none
 | k + 1, x22, x314000, x314001, x315000, x315001, x316000, x316001 => if x22 = true then (some (0, false)) else ((impl_pairOf.f x314000 x314001).bind fun bt319 => ((impl_pairOf.f x315000 x315001).bind fun bt322 => ((impl_pair_minus.f bt322.1 bt322.2 bt319.1 bt319.2).bind fun bt324 => ((impl_pairOf.f x316000 x316001).bind fun bt327 => ((impl_pair_minus.f bt327.1 bt327.2 bt319.1 bt319.2).bind fun bt329 => ((impl_pair_cross.f bt324.1 bt324.2 bt329.1 bt329.2).bind fun t331 => ((impl_signInt.f t331).bind fun t332 => (some (t332, true)))))))))
def impl_PointSide.f (k : Nat) (a0_0 : Int) (a0_1 : Int) (a1_0 : Int) (a1_1 : Int) (a2_0 : Int) (a2_1 : Int) : Option (Int × Bool) := (impl_PointValid.f a0_0 a0_1).bind fun t316 => (if t316 = true then ((impl_PointValid.f a1_0 a1_1).bind fun t317 => (if t317 = true then ((impl_PointValid.f a2_0 a2_1).bind fun t318 => (impl_PointSide.j0 k (!t318) a0_0 a0_1 a1_0 a1_1 a2_0 a2_1)) else (impl_PointSide.j0 k true a0_0 a0_1 a1_0 a1_1 a2_0 a2_1))) else (impl_PointSide.j0 k true a0_0 a0_1 a1_0 a1_1 a2_0 a2_1))
def impl_PointSide.T5 : Bool × List (List Nat × List Nat) := (true, [([], []), ([], []), ([1], [1]), ([], []), ([2, 3, 2], [2, 3]), ([0, 4, 4], [0, 4]), ([5, 5], [5]), ([6, 6, 0, 1, 2, 3, 4, 5, 6], [6]), ([7, 0, 1, 2, 3, 4, 5, 6, 7], [])])
def impl_PointSide.B5 : List Nat := [0, 0, 2, 0, 14, 31, 63, 127, 255]
theorem impl_PointSide.tab5 : rtab .any (opsOf Try.f62 5) = impl_PointSide.T5 := by kernel_rfl
theorem impl_PointSide.bits5 : waitsOk impl_PointSide.T5.2 impl_PointSide.B5 = true := by kernel_rfl
set_option maxHeartbeats 8000000 in
set_option maxRecDepth 100000 in
theorem impl_PointSide.calls (k : Nat) (a0_0 : Int) (a0_1 : Int) (a1_0 : Int) (a1_1 : Int) (a2_0 : Int) (a2_1 : Int) (r1 : Int) (r2 : Bool) (w : World) (h : impl_PointSide.f k a0_0 a0_1 a1_0 a1_1 a2_0 a2_1 = some (r1, r2)) :
  Calls Try.prog 62 #[.agg #[.int .i64 a0_0, .int .i64 a0_1], .agg #[.int .i64 a1_0, .int .i64 a1_1], .agg #[.int .i64 a2_0, .int .i64 a2_1]] w fun e w' => e = .returned (.tuple #[.int .i64 r1, .bool r2]) ∧ Below w.heap.size w w' := by
 have hu32 := Try.underlying32
 have hu66 := Try.underlying66
 have HB := Aside0.mk (Below.refl w.heap.size w)
 have H : ((impl_PointValid.f a0_0 a0_1).bind fun t316 => (if t316 = true then ((impl_PointValid.f a1_0 a1_1).bind fun t317 => (if t317 = true then ((impl_PointValid.f a2_0 a2_1).bind fun t318 => (impl_PointSide.j0 k (!t318) a0_0 a0_1 a1_0 a1_1 a2_0 a2_1)) else (impl_PointSide.j0 k true a0_0 a0_1 a1_0 a1_1 a2_0 a2_1))) else (impl_PointSide.j0 k true a0_0 a0_1 a1_0 a1_1 a2_0 a2_1))) = some (r1, r2) := h
 clear h
 have HC4 := Aside0.mk H
 clear H
 go_enter Try.func62, Try.ntmps62
 go_upto_region 1 with (first | ((with_reducible refine gate_dst (N := 3) rfl ?_); refine box_event ?hg (N := 3) ?hd (cs := #[.int .i64 a0_0, .int .i64 a0_1]) (t := 32) ?hr ?_; (case hd => rfl); (case hg => rfl); (case hr => exact qq22); intro gb313 hg w5 hbox hb; have n0_ := Aside0.mk (below_step qq1 hb); have n1_ := Aside0.mk (hbox); have n2_ := Aside0.mk ((qq35 : w.heap.size ≤ gb313)); have n3_ := Aside0.mk ((qq35 : w.heap.size ≤ gb313)); clear HB; have HB := n0_; have BK313 := n1_; have GW313 := n2_; have GE313 := n3_; clear n0_ n1_ n2_ n3_; clear hb hbox hg) | ((with_reducible refine gate_dst (N := 4) rfl ?_); refine box_event ?hg (N := 4) ?hd (cs := #[.int .i64 a1_0, .int .i64 a1_1]) (t := 32) ?hr ?_; (case hd => rfl); (case hg => rfl); (case hr => exact qq22); intro gb314 hg w6 hbox hb; have n0_ := Aside0.mk (bbl_ BK313.out hb); have n1_ := Aside0.mk (below_step (qq7 HB.out GE313.out) hb); have n2_ := Aside0.mk (hbox); have n3_ := Aside0.mk ((qq43 HB.out GE313.out : w.heap.size ≤ gb314)); have n4_ := Aside0.mk ((qq43 HB.out GE313.out : w.heap.size ≤ gb314)); have n5_ := Aside0.mk ((qq31 BK313.out : gb313 ≠ gb314)); have n6_ := Aside0.mk ((qq32 BK313.out : gb314 ≠ gb313)); clear BK313; clear HB; have BK313 := n0_; have HB := n1_; have BK314 := n2_; have GW314 := n3_; have GE314 := n4_; have NB313_314 := n5_; have NB314_313 := n6_; clear n0_ n1_ n2_ n3_ n4_ n5_ n6_; clear hb hbox hg) | ((with_reducible refine gate_dst (N := 5) rfl ?_); refine box_event ?hg (N := 5) ?hd (cs := #[.int .i64 a2_0, .int .i64 a2_1]) (t := 32) ?hr ?_; (case hd => rfl); (case hg => rfl); (case hr => exact qq22); intro gb315 hg w7 hbox hb; have n0_ := Aside0.mk (bbl_ BK313.out hb); have n1_ := Aside0.mk (bbl_ BK314.out hb); have n2_ := Aside0.mk (below_step (qq13 HB.out GE313.out GE314.out) hb); have n3_ := Aside0.mk (hbox); have n4_ := Aside0.mk ((qq54 HB.out GE313.out GE314.out : w.heap.size ≤ gb315)); have n5_ := Aside0.mk ((qq54 HB.out GE313.out GE314.out : w.heap.size ≤ gb315)); have n6_ := Aside0.mk ((qq31 BK313.out : gb313 ≠ gb315)); have n7_ := Aside0.mk ((qq32 BK313.out : gb315 ≠ gb313)); have n8_ := Aside0.mk ((qq31 BK314.out : gb314 ≠ gb315)); have n9_ := Aside0.mk ((qq32 BK314.out : gb315 ≠ gb314)); clear BK313; clear BK314; clear HB; have BK313 := n0_; have BK314 := n1_; have HB := n2_; have BK315 := n3_; have GW315 := n4_; have GE315 := n5_; have NB313_315 := n6_; have NB315_313 := n7_; have NB314_315 := n8_; have NB315_314 := n9_; clear n0_ n1_ n2_ n3_ n4_ n5_ n6_ n7_ n8_ n9_; clear hb hbox hg))
 (try simp only [Act.put, List.setIfInBounds_toArray, List.set_cons_zero, List.set_cons_succ])
 go_cut [22] (fun v22 wc => ∃ (kq : Nat) (x22_3 : Bool), v22 = .bool x22_3 ∧ Aside0 (impl_PointSide.j0 kq x22_3 a0_0 a0_1 a1_0 a1_1 a2_0 a2_1 = some (r1, r2)) ∧ Aside0 (kq ≤ k) ∧ Aside0 (wc.heap[gb313]? = some (.cells #[.int .i64 a0_0, .int .i64 a0_1] 32 (0, 0))) ∧ Aside0 (wc.heap[gb314]? = some (.cells #[.int .i64 a1_0, .int .i64 a1_1] 32 (0, 0))) ∧ Aside0 (wc.heap[gb315]? = some (.cells #[.int .i64 a2_0, .int .i64 a2_1] 32 (0, 0))) ∧ Aside0 (Below w.heap.size w wc))
 case first =>
  have H := HC4.out
  clear HC4
  replace H := Option.bind_eq_some_iff.mp H
  obtain ⟨t316, A80, H⟩ := H
  replace H : (if t316 = true then ((impl_PointValid.f a1_0 a1_1).bind fun t317 => (if t317 = true then ((impl_PointValid.f a2_0 a2_1).bind fun t318 => (impl_PointSide.j0 k (!t318) a0_0 a0_1 a1_0 a1_1 a2_0 a2_1)) else (impl_PointSide.j0 k true a0_0 a0_1 a1_0 a1_1 a2_0 a2_1))) else (impl_PointSide.j0 k true a0_0 a0_1 a1_0 a1_1 a2_0 a2_1)) = some (r1, r2) := H
  have A8 := Aside0.mk A80
  clear A80
  by_cases c9 : t316 = true
  ·subst c9
   have H1 : ((impl_PointValid.f a1_0 a1_1).bind fun t317 => (if t317 = true then ((impl_PointValid.f a2_0 a2_1).bind fun t318 => (impl_PointSide.j0 k (!t318) a0_0 a0_1 a1_0 a1_1 a2_0 a2_1)) else (impl_PointSide.j0 k true a0_0 a0_1 a1_0 a1_1 a2_0 a2_1))) = some (r1, r2) := by rw [if_pos rfl] at H; exact H
   clear H
   have H := H1
   clear H1
   replace H := Option.bind_eq_some_iff.mp H
   obtain ⟨t317, A100, H⟩ := H
   replace H : (if t317 = true then ((impl_PointValid.f a2_0 a2_1).bind fun t318 => (impl_PointSide.j0 k (!t318) a0_0 a0_1 a1_0 a1_1 a2_0 a2_1)) else (impl_PointSide.j0 k true a0_0 a0_1 a1_0 a1_1 a2_0 a2_1)) = some (r1, r2) := H
   have A10 := Aside0.mk A100
   clear A100
   by_cases c11 : t317 = true
   ·subst c11
    have H1 : ((impl_PointValid.f a2_0 a2_1).bind fun t318 => (impl_PointSide.j0 k (!t318) a0_0 a0_1 a1_0 a1_1 a2_0 a2_1)) = some (r1, r2) := by rw [if_pos rfl] at H; exact H
    clear H
    have H := H1
    clear H1
    replace H := Option.bind_eq_some_iff.mp H
    obtain ⟨t318, A120, H⟩ := H
    replace H : (impl_PointSide.j0 k (!t318) a0_0 a0_1 a1_0 a1_1 a2_0 a2_1) = some (r1, r2) := H
    have A12 := Aside0.mk A120
    clear A120
    have H' := Aside0.mk H
    clear H
    have hnb13 := NB313_314.out
    have hnc13 := NB314_313.out
    have hnb14 := NB313_315.out
    have hnc14 := NB315_313.out
    have hcz15_0 : w7.cell? ⟨gb313, 0, none⟩ = some (.int .i64 a0_0) := (blk_cell BK313.out 0).trans rfl
    have hcz15_1 : w7.cell? ⟨gb313, 1, none⟩ = some (.int .i64 a0_1) := (blk_cell BK313.out 1).trans rfl
    have hfz15_0 := blk_frozen BK313.out 0
    have hfz15_1 := blk_frozen BK313.out 1
    go_wp2_with (first | ((with_reducible refine gate_callee (f := 23) rfl ?_); refine goesL_ (some 11) rfl rfl Try.func23 (by kernel_rfl) rfl #[.agg #[.int .i64 a0_0, .int .i64 a0_1]] rfl qq3 ?_; (with_reducible refine (impl_PointValid.calls a0_0 a0_1 true _ A8.out).mono ?_); rintro e w16 ⟨rfl, hb⟩; refine ⟨_, rfl, ?_⟩; have n0_ := Aside0.mk (bbl_ BK313.out hb); have n1_ := Aside0.mk (bbl_ BK314.out hb); have n2_ := Aside0.mk (bbl_ BK315.out hb); have n3_ := Aside0.mk (below_step (qq9 HB.out GE313.out GE314.out GE315.out) hb); clear BK313; clear BK314; clear BK315; clear HB; have BK313 := n0_; have BK314 := n1_; have BK315 := n2_; have HB := n3_; clear n0_ n1_ n2_ n3_; (try clear hb); (try clear hb2); (try clear hk); (try clear hi); have hnb17 := NB314_315.out; have hnc17 := NB315_314.out; have hcz18_0 : w16.cell? ⟨gb314, 0, none⟩ = some (.int .i64 a1_0) := (blk_cell BK314.out 0).trans rfl; have hcz18_1 : w16.cell? ⟨gb314, 1, none⟩ = some (.int .i64 a1_1) := (blk_cell BK314.out 1).trans rfl; have hfz18_0 := blk_frozen BK314.out 0; have hfz18_1 := blk_frozen BK314.out 1) | (go_at_call 23; (with_reducible refine (impl_PointValid.calls a1_0 a1_1 true _ A10.out).mono ?_); rintro e w19 ⟨rfl, hb⟩; have n0_ := Aside0.mk (bbl_ BK313.out hb); have n1_ := Aside0.mk (bbl_ BK314.out hb); have n2_ := Aside0.mk (bbl_ BK315.out hb); have n3_ := Aside0.mk (below_step (qq9 HB.out GE313.out GE314.out GE315.out) hb); clear BK313; clear BK314; clear BK315; clear HB; have BK313 := n0_; have BK314 := n1_; have BK315 := n2_; have HB := n3_; clear n0_ n1_ n2_ n3_; (try clear hb); (try clear hb2); (try clear hk); (try clear hi); have hcz20_0 : w19.cell? ⟨gb315, 0, none⟩ = some (.int .i64 a2_0) := (blk_cell BK315.out 0).trans rfl; have hcz20_1 : w19.cell? ⟨gb315, 1, none⟩ = some (.int .i64 a2_1) := (blk_cell BK315.out 1).trans rfl; have hfz20_0 := blk_frozen BK315.out 0; have hfz20_1 := blk_frozen BK315.out 1) | (go_at_call 23; (with_reducible refine (impl_PointValid.calls a2_0 a2_1 t318 _ A12.out).mono ?_); rintro e w21 ⟨rfl, hb⟩; have n0_ := Aside0.mk (bbl_ BK313.out hb); have n1_ := Aside0.mk (bbl_ BK314.out hb); have n2_ := Aside0.mk (bbl_ BK315.out hb); have n3_ := Aside0.mk (below_step (qq9 HB.out GE313.out GE314.out GE315.out) hb); clear BK313; clear BK314; clear BK315; clear HB; have BK313 := n0_; have BK314 := n1_; have BK315 := n2_; have HB := n3_; clear n0_ n1_ n2_ n3_; (try clear hb); (try clear hb2); (try clear hk); (try clear hi)))
    go_meet
    case rel => exact ⟨_, (!t318), qq25, H', ⟨qq40⟩, ⟨qq12 BK313.out⟩, ⟨qq12 BK314.out⟩, ⟨qq12 BK315.out⟩, ⟨qq9 HB.out GE313.out GE314.out GE315.out⟩⟩
   ·replace c11 := Bool.eq_false_iff.mpr c11
    subst c11
    have H1 : (impl_PointSide.j0 k true a0_0 a0_1 a1_0 a1_1 a2_0 a2_1) = some (r1, r2) := by rw [if_neg (show ¬ (false = true) by decide)] at H; exact H
    clear H
    have H := H1
    clear H1
    have H' := Aside0.mk H
    clear H
    have hnb22 := NB313_314.out
    have hnc22 := NB314_313.out
    have hnb23 := NB313_315.out
    have hnc23 := NB315_313.out
    have hcz24_0 : w7.cell? ⟨gb313, 0, none⟩ = some (.int .i64 a0_0) := (blk_cell BK313.out 0).trans rfl
    have hcz24_1 : w7.cell? ⟨gb313, 1, none⟩ = some (.int .i64 a0_1) := (blk_cell BK313.out 1).trans rfl
    have hfz24_0 := blk_frozen BK313.out 0
    have hfz24_1 := blk_frozen BK313.out 1
    go_wp2_with (first | ((with_reducible refine gate_callee (f := 23) rfl ?_); refine goesL_ (some 11) rfl rfl Try.func23 (by kernel_rfl) rfl #[.agg #[.int .i64 a0_0, .int .i64 a0_1]] rfl qq3 ?_; (with_reducible refine (impl_PointValid.calls a0_0 a0_1 true _ A8.out).mono ?_); rintro e w25 ⟨rfl, hb⟩; refine ⟨_, rfl, ?_⟩; have n0_ := Aside0.mk (bbl_ BK313.out hb); have n1_ := Aside0.mk (bbl_ BK314.out hb); have n2_ := Aside0.mk (bbl_ BK315.out hb); have n3_ := Aside0.mk (below_step (qq9 HB.out GE313.out GE314.out GE315.out) hb); clear BK313; clear BK314; clear BK315; clear HB; have BK313 := n0_; have BK314 := n1_; have BK315 := n2_; have HB := n3_; clear n0_ n1_ n2_ n3_; (try clear hb); (try clear hb2); (try clear hk); (try clear hi); have hnb26 := NB314_315.out; have hnc26 := NB315_314.out; have hcz27_0 : w25.cell? ⟨gb314, 0, none⟩ = some (.int .i64 a1_0) := (blk_cell BK314.out 0).trans rfl; have hcz27_1 : w25.cell? ⟨gb314, 1, none⟩ = some (.int .i64 a1_1) := (blk_cell BK314.out 1).trans rfl; have hfz27_0 := blk_frozen BK314.out 0; have hfz27_1 := blk_frozen BK314.out 1) | (go_at_call 23; (with_reducible refine (impl_PointValid.calls a1_0 a1_1 false _ A10.out).mono ?_); rintro e w28 ⟨rfl, hb⟩; have n0_ := Aside0.mk (bbl_ BK313.out hb); have n1_ := Aside0.mk (bbl_ BK314.out hb); have n2_ := Aside0.mk (bbl_ BK315.out hb); have n3_ := Aside0.mk (below_step (qq9 HB.out GE313.out GE314.out GE315.out) hb); clear BK313; clear BK314; clear BK315; clear HB; have BK313 := n0_; have BK314 := n1_; have BK315 := n2_; have HB := n3_; clear n0_ n1_ n2_ n3_; (try clear hb); (try clear hb2); (try clear hk); (try clear hi)))
    go_meet
    case rel => exact ⟨_, (true), qq25, H', ⟨qq40⟩, ⟨qq12 BK313.out⟩, ⟨qq12 BK314.out⟩, ⟨qq12 BK315.out⟩, ⟨qq9 HB.out GE313.out GE314.out GE315.out⟩⟩
  ·replace c9 := Bool.eq_false_iff.mpr c9
   subst c9
   have H1 : (impl_PointSide.j0 k true a0_0 a0_1 a1_0 a1_1 a2_0 a2_1) = some (r1, r2) := by rw [if_neg (show ¬ (false = true) by decide)] at H; exact H
   clear H
   have H := H1
   clear H1
   have H' := Aside0.mk H
   clear H
   have hnb29 := NB313_314.out
   have hnc29 := NB314_313.out
   have hnb30 := NB313_315.out
   have hnc30 := NB315_313.out
   have hcz31_0 : w7.cell? ⟨gb313, 0, none⟩ = some (.int .i64 a0_0) := (blk_cell BK313.out 0).trans rfl
   have hcz31_1 : w7.cell? ⟨gb313, 1, none⟩ = some (.int .i64 a0_1) := (blk_cell BK313.out 1).trans rfl
   have hfz31_0 := blk_frozen BK313.out 0
   have hfz31_1 := blk_frozen BK313.out 1
   go_wp2_with (first | ((with_reducible refine gate_callee (f := 23) rfl ?_); refine goesL_ (some 11) rfl rfl Try.func23 (by kernel_rfl) rfl #[.agg #[.int .i64 a0_0, .int .i64 a0_1]] rfl qq3 ?_; (with_reducible refine (impl_PointValid.calls a0_0 a0_1 false _ A8.out).mono ?_); rintro e w32 ⟨rfl, hb⟩; refine ⟨_, rfl, ?_⟩; have n0_ := Aside0.mk (bbl_ BK313.out hb); have n1_ := Aside0.mk (bbl_ BK314.out hb); have n2_ := Aside0.mk (bbl_ BK315.out hb); have n3_ := Aside0.mk (below_step (qq9 HB.out GE313.out GE314.out GE315.out) hb); clear BK313; clear BK314; clear BK315; clear HB; have BK313 := n0_; have BK314 := n1_; have BK315 := n2_; have HB := n3_; clear n0_ n1_ n2_ n3_; (try clear hb); (try clear hb2); (try clear hk); (try clear hi)))
   go_meet
   case rel => exact ⟨_, (true), qq25, H', ⟨qq40⟩, ⟨qq12 BK313.out⟩, ⟨qq12 BK314.out⟩, ⟨qq12 BK315.out⟩, ⟨qq9 HB.out GE313.out GE314.out GE315.out⟩⟩
 case rest =>
  clear HC4
  try clear c1
  try clear c2
  try clear p2
  try clear c3
  try clear c6
  try clear c9
  try clear c11
  try clear c13
  try clear c14
  try clear c17
  try clear c22
  try clear c23
  try clear c26
  try clear c29
  try clear c30
  try clear hcz15_0
  try clear hcz15_1
  try clear hcz18_0
  try clear hcz18_1
  try clear hcz20_0
  try clear hcz20_1
  try clear hcz24_0
  try clear hcz24_1
  try clear hcz27_0
  try clear hcz27_1
  try clear hcz31_0
  try clear hcz31_1
  try clear hfz15_0
  try clear hfz15_1
  try clear hfz18_0
  try clear hfz18_1
  try clear hfz20_0
  try clear hfz20_1
  try clear hfz24_0
  try clear hfz24_1
  try clear hfz27_0
  try clear hfz27_1
  try clear hfz31_0
  try clear hfz31_1
  obtain ⟨kq, x22_3, rfl, HA, HJ3, BK313, BK314, BK315, HB⟩ := hcut
  cases kq with
  | zero => exact absurd HA.out (by simp [impl_PointSide.j0])
  | succ kj3 =>
   have H := HA.out
   clear HA
   simp only [impl_PointSide.j0] at H
   by_cases c33 : x22_3 = true
   ·subst c33
    have H1 : (some (0, false)) = some (r1, r2) := by rw [if_pos rfl] at H; exact H
    clear H
    have H := H1
    clear H1
    simp only [Option.some.injEq, Prod.mk.injEq] at H
    obtain ⟨rfl, rfl⟩ := H
    go_wp2
    go_ret2
    exact ⟨qq10, qq9 HB.out GE313.out GE314.out GE315.out⟩
   ·replace c33 := Bool.eq_false_iff.mpr c33
    subst c33
    have H1 : ((impl_pairOf.f a0_0 a0_1).bind fun bt319 => ((impl_pairOf.f a1_0 a1_1).bind fun bt322 => ((impl_pair_minus.f bt322.1 bt322.2 bt319.1 bt319.2).bind fun bt324 => ((impl_pairOf.f a2_0 a2_1).bind fun bt327 => ((impl_pair_minus.f bt327.1 bt327.2 bt319.1 bt319.2).bind fun bt329 => ((impl_pair_cross.f bt324.1 bt324.2 bt329.1 bt329.2).bind fun t331 => ((impl_signInt.f t331).bind fun t332 => (some (t332, true))))))))) = some (r1, r2) := by rw [if_neg (show ¬ (false = true) by decide)] at H; exact H
    clear H
    have H := H1
    clear H1
    replace H := Option.bind_eq_some_iff.mp H
    obtain ⟨⟨t319, t320⟩, A340, H⟩ := H
    replace H : ((impl_pairOf.f a1_0 a1_1).bind fun bt322 => ((impl_pair_minus.f bt322.1 bt322.2 t319 t320).bind fun bt324 => ((impl_pairOf.f a2_0 a2_1).bind fun bt327 => ((impl_pair_minus.f bt327.1 bt327.2 t319 t320).bind fun bt329 => ((impl_pair_cross.f bt324.1 bt324.2 bt329.1 bt329.2).bind fun t331 => ((impl_signInt.f t331).bind fun t332 => (some (t332, true)))))))) = some (r1, r2) := H
    have A34 := Aside0.mk A340
    clear A340
    replace H := Option.bind_eq_some_iff.mp H
    obtain ⟨⟨t322, t323⟩, A350, H⟩ := H
    replace H : ((impl_pair_minus.f t322 t323 t319 t320).bind fun bt324 => ((impl_pairOf.f a2_0 a2_1).bind fun bt327 => ((impl_pair_minus.f bt327.1 bt327.2 t319 t320).bind fun bt329 => ((impl_pair_cross.f bt324.1 bt324.2 bt329.1 bt329.2).bind fun t331 => ((impl_signInt.f t331).bind fun t332 => (some (t332, true))))))) = some (r1, r2) := H
    have A35 := Aside0.mk A350
    clear A350
    replace H := Option.bind_eq_some_iff.mp H
    obtain ⟨⟨t324, t325⟩, A360, H⟩ := H
    replace H : ((impl_pairOf.f a2_0 a2_1).bind fun bt327 => ((impl_pair_minus.f bt327.1 bt327.2 t319 t320).bind fun bt329 => ((impl_pair_cross.f t324 t325 bt329.1 bt329.2).bind fun t331 => ((impl_signInt.f t331).bind fun t332 => (some (t332, true)))))) = some (r1, r2) := H
    have A36 := Aside0.mk A360
    clear A360
    replace H := Option.bind_eq_some_iff.mp H
    obtain ⟨⟨t327, t328⟩, A370, H⟩ := H
    replace H : ((impl_pair_minus.f t327 t328 t319 t320).bind fun bt329 => ((impl_pair_cross.f t324 t325 bt329.1 bt329.2).bind fun t331 => ((impl_signInt.f t331).bind fun t332 => (some (t332, true))))) = some (r1, r2) := H
    have A37 := Aside0.mk A370
    clear A370
    replace H := Option.bind_eq_some_iff.mp H
    obtain ⟨⟨t329, t330⟩, A380, H⟩ := H
    replace H : ((impl_pair_cross.f t324 t325 t329 t330).bind fun t331 => ((impl_signInt.f t331).bind fun t332 => (some (t332, true)))) = some (r1, r2) := H
    have A38 := Aside0.mk A380
    clear A380
    replace H := Option.bind_eq_some_iff.mp H
    obtain ⟨t331, A390, H⟩ := H
    replace H : ((impl_signInt.f t331).bind fun t332 => (some (t332, true))) = some (r1, r2) := H
    have A39 := Aside0.mk A390
    clear A390
    replace H := Option.bind_eq_some_iff.mp H
    obtain ⟨t332, A400, H⟩ := H
    replace H : (some (t332, true)) = some (r1, r2) := H
    have A40 := Aside0.mk A400
    clear A400
    simp only [Option.some.injEq, Prod.mk.injEq] at H
    obtain ⟨rfl, rfl⟩ := H
    have hnb41 := NB313_314.out
    have hnc41 := NB314_313.out
    have hnb42 := NB313_315.out
    have hnc42 := NB315_313.out
    have hcz43_0 : wc.cell? ⟨gb313, 0, none⟩ = some (.int .i64 a0_0) := (blk_cell BK313.out 0).trans rfl
    have hcz43_1 : wc.cell? ⟨gb313, 1, none⟩ = some (.int .i64 a0_1) := (blk_cell BK313.out 1).trans rfl
    have hfz43_0 := blk_frozen BK313.out 0
    have hfz43_1 := blk_frozen BK313.out 1
    try go_wp2_with (first | ((with_reducible refine gate_callee (f := 53) rfl ?_); refine goesL_ (some 24) rfl rfl Try.func53 (by kernel_rfl) rfl #[.agg #[.int .i64 a0_0, .int .i64 a0_1]] rfl qq3 ?_; (with_reducible refine (impl_pairOf.calls a0_0 a0_1 t319 t320 _ A34.out).mono ?_); rintro e w44 ⟨rfl, hb⟩; refine ⟨_, rfl, ?_⟩; have n0_ := Aside0.mk (bbl_ BK313.out hb); have n1_ := Aside0.mk (bbl_ BK314.out hb); have n2_ := Aside0.mk (bbl_ BK315.out hb); have n3_ := Aside0.mk (below_step (qq9 HB.out GE313.out GE314.out GE315.out) hb); clear BK313; clear BK314; clear BK315; clear HB; have BK313 := n0_; have BK314 := n1_; have BK315 := n2_; have HB := n3_; clear n0_ n1_ n2_ n3_; (try clear hb); (try clear hb2); (try clear hk); (try clear hi)) | ((with_reducible refine gate_dst (N := 8) rfl ?_); refine box_event ?hg (N := 8) ?hd (cs := #[.int .i64 0, .int .i64 0]) (t := 66) ?hr ?_; (case hd => rfl); (case hg => rfl); (case hr => exact qq22); intro gb321 hg w45 hbox hb; have n0_ := Aside0.mk (bbl_ BK313.out hb); have n1_ := Aside0.mk (bbl_ BK314.out hb); have n2_ := Aside0.mk (bbl_ BK315.out hb); have n3_ := Aside0.mk (below_step (qq9 HB.out GE313.out GE314.out GE315.out) hb); have n4_ := Aside0.mk (hbox); have n5_ := Aside0.mk ((by rw [hg]; exact (below_size (qq9 HB.out GE313.out GE314.out GE315.out)) : w.heap.size ≤ gb321)); have n6_ := Aside0.mk ((by rw [hg]; exact (below_size (qq9 HB.out GE313.out GE314.out GE315.out)) : w.heap.size ≤ gb321)); have n7_ := Aside0.mk ((qq31 BK313.out : gb313 ≠ gb321)); have n8_ := Aside0.mk ((qq32 BK313.out : gb321 ≠ gb313)); have n9_ := Aside0.mk ((qq31 BK314.out : gb314 ≠ gb321)); have n10_ := Aside0.mk ((qq32 BK314.out : gb321 ≠ gb314)); have n11_ := Aside0.mk ((qq31 BK315.out : gb315 ≠ gb321)); have n12_ := Aside0.mk ((qq32 BK315.out : gb321 ≠ gb315)); clear BK313; clear BK314; clear BK315; clear HB; have BK313 := n0_; have BK314 := n1_; have BK315 := n2_; have HB := n3_; have BK321 := n4_; have GW321 := n5_; have GE321 := n6_; have NB313_321 := n7_; have NB321_313 := n8_; have NB314_321 := n9_; have NB321_314 := n10_; have NB315_321 := n11_; have NB321_315 := n12_; clear n0_ n1_ n2_ n3_ n4_ n5_ n6_ n7_ n8_ n9_ n10_ n11_ n12_; clear hb hbox hg; have hnb46 := NB321_313.out; have hnc46 := NB313_321.out; have hnb47 := NB321_314.out; have hnc47 := NB314_321.out; have hnb48 := NB321_315.out; have hnc48 := NB315_321.out; have hcz49_0 : w45.cell? ⟨gb321, 0, none⟩ = some (.int .i64 0) := (blk_cell BK321.out 0).trans rfl; have hcz49_1 : w45.cell? ⟨gb321, 1, none⟩ = some (.int .i64 0) := (blk_cell BK321.out 1).trans rfl; have hfz49_0 := blk_frozen BK321.out 0; have hfz49_1 := blk_frozen BK321.out 1))
    have n0_ : Aside0 (((w45.setCell ⟨gb321, 0, none⟩ (.int .i64 t319)).setCell ⟨gb321, 1, none⟩ (.int .i64 t320)).heap[gb313]? = some (.cells #[.int .i64 a0_0, .int .i64 a0_1] 32 (0, 0))) := ⟨qq17 NB313_321.out BK313.out⟩
    have n1_ : Aside0 (((w45.setCell ⟨gb321, 0, none⟩ (.int .i64 t319)).setCell ⟨gb321, 1, none⟩ (.int .i64 t320)).heap[gb314]? = some (.cells #[.int .i64 a1_0, .int .i64 a1_1] 32 (0, 0))) := ⟨qq17 NB314_321.out BK314.out⟩
    have n2_ : Aside0 (((w45.setCell ⟨gb321, 0, none⟩ (.int .i64 t319)).setCell ⟨gb321, 1, none⟩ (.int .i64 t320)).heap[gb315]? = some (.cells #[.int .i64 a2_0, .int .i64 a2_1] 32 (0, 0))) := ⟨qq17 NB315_321.out BK315.out⟩
    have n3_ : Aside0 (((w45.setCell ⟨gb321, 0, none⟩ (.int .i64 t319)).setCell ⟨gb321, 1, none⟩ (.int .i64 t320)).heap[gb321]? = some (.cells #[.int .i64 t319, .int .i64 t320] 66 (0, 0))) := ⟨by (with_reducible repeat (first | refine blk_drewN ?_ _ | refine blk_drew ?_ | refine blk_alloc ?_ _)); refine blk_put (cs := #[.int .i64 t319, .int .i64 0]) ?_ 1 _ rfl; (with_reducible repeat (first | refine blk_drewN ?_ _ | refine blk_drew ?_ | refine blk_alloc ?_ _)); refine blk_put (cs := #[.int .i64 0, .int .i64 0]) ?_ 0 _ rfl; (with_reducible repeat (first | refine blk_drewN ?_ _ | refine blk_drew ?_ | refine blk_alloc ?_ _)); exact BK321.out⟩
    have n4_ : Aside0 (Below w.heap.size w ((w45.setCell ⟨gb321, 0, none⟩ (.int .i64 t319)).setCell ⟨gb321, 1, none⟩ (.int .i64 t320))) := ⟨qq20⟩
    (try clear BK313)
    (try clear BK314)
    (try clear BK315)
    (try clear BK321)
    (try clear HB)
    generalize ((w45.setCell ⟨gb321, 0, none⟩ (.int .i64 t319)).setCell ⟨gb321, 1, none⟩ (.int .i64 t320)) = w50 at n0_ n1_ n2_ n3_ n4_ ⊢
    have BK313 := n0_
    have BK314 := n1_
    have BK315 := n2_
    have BK321 := n3_
    have HB := n4_
    clear n0_ n1_ n2_ n3_ n4_
    have n0_ := Aside0.mk (blk_drew BK313.out)
    have n1_ := Aside0.mk (blk_drew BK314.out)
    have n2_ := Aside0.mk (blk_drew BK315.out)
    have n3_ := Aside0.mk (blk_drew BK321.out)
    have n4_ := Aside0.mk (below_drew1 HB.out)
    clear BK313
    clear BK314
    clear BK315
    clear BK321
    clear HB
    have BK313 := n0_
    have BK314 := n1_
    have BK315 := n2_
    have BK321 := n3_
    have HB := n4_
    clear n0_ n1_ n2_ n3_ n4_
    refine start_ (n := 6) (S := fun w' => w'.cell? ⟨gb314, 0, none⟩ = some (.int .i64 a1_0) ∧ w'.cell? ⟨gb314, 1, none⟩ = some (.int .i64 a1_1) ∧ w'.cell? ⟨gb321, 0, none⟩ = some (.int .i64 t319) ∧ w'.cell? ⟨gb321, 1, none⟩ = some (.int .i64 t320)) (ds := []) #[false, false, false, false, false, false] (by kernel_rfl) rfl rfl ⟨(blk_cell BK314.out 0).trans rfl, (blk_cell BK314.out 1).trans rfl, (blk_cell BK321.out 0).trans rfl, (blk_cell BK321.out 1).trans rfl⟩ (fun hHeld => ?_)
    generalize w50.drew = w51 at BK313 BK314 BK315 BK321 HB hHeld ⊢
    refine take_ (i := 0) (N := some 25) (v := ?_) (a' := ?_) #[true, false, false, false, false, false] rfl rfl (by kernel_rfl) (fun _ _ _ h => h) (Or.inl ⟨by rfl, ?_⟩) hHeld ?_ ?_
    rotate_left
    ·rintro w' ⟨s0, s1, s2, s3⟩
     go_simp
     with_reducible rfl
    rotate_left
    ·simp only [Act.put, List.setIfInBounds_toArray, List.set_cons_zero, List.set_cons_succ, i64_w, i32_w]
     rfl
    refine take_ (i := 2) (N := some 27) (v := ?_) (a' := ?_) #[true, false, true, false, false, false] rfl rfl (by kernel_rfl) (fun _ _ _ h => h) (Or.inl ⟨by rfl, ?_⟩) hHeld ?_ ?_
    rotate_left
    ·rintro w' ⟨s0, s1, s2, s3⟩
     go_simp
     with_reducible rfl
    rotate_left
    ·simp only [Act.put, List.setIfInBounds_toArray, List.set_cons_zero, List.set_cons_succ, i64_w, i32_w]
     rfl
    refine join_ (σ := Nat) 1 #[true, true, true, true, true, false] (fun s_ => [(26, .agg #[.int .i64 t322, .int .i64 t323]), (28, .agg #[.int .i64 t324, .int .i64 t325]), (9, .pointer (some ⟨s_, 0, none⟩))]) (fun s_ w' => (w'.cell? ⟨gb314, 0, none⟩ = some (.int .i64 a1_0) ∧ w'.cell? ⟨gb314, 1, none⟩ = some (.int .i64 a1_1) ∧ w'.cell? ⟨gb321, 0, none⟩ = some (.int .i64 t319) ∧ w'.cell? ⟨gb321, 1, none⟩ = some (.int .i64 t320)) ∧ (w'.heap[gb313]? = some (.cells #[.int .i64 a0_0, .int .i64 a0_1] 32 (0, 0))) ∧ (w'.heap[gb314]? = some (.cells #[.int .i64 a1_0, .int .i64 a1_1] 32 (0, 0))) ∧ (w'.heap[gb315]? = some (.cells #[.int .i64 a2_0, .int .i64 a2_1] 32 (0, 0))) ∧ (w'.heap[gb321]? = some (.cells #[.int .i64 t319, .int .i64 t320] 66 (0, 0))) ∧ (w'.heap[s_]? = some (.cells #[.int .i64 0, .int .i64 0] 66 (0, 0))) ∧ (w.heap.size ≤ s_) ∧ (w.heap.size ≤ s_) ∧ (gb313 ≠ s_) ∧ (s_ ≠ gb313) ∧ (gb314 ≠ s_) ∧ (s_ ≠ gb314) ∧ (gb315 ≠ s_) ∧ (s_ ≠ gb315) ∧ (gb321 ≠ s_) ∧ (s_ ≠ gb321) ∧ (Below w.heap.size w w')) ?_ ?_
    rotate_left
    ·intro hCont
     refine two_ (i := 1) (j := 4) (Ni := some 26) (Nj := some 9) #[true, true, true, false, false, false] #[true, false, true, false, true, false] rfl rfl rfl rfl (by kernel_rfl) (by decide) (by decide) (fun K hK => ?_) (fun K hK => ?_)
     ·skip
      refine goes_ Try.func53 (by kernel_rfl) rfl #[.agg #[.int .i64 a1_0, .int .i64 a1_1]] (by rfl) rfl rfl qq3 ?_
      with_reducible refine (impl_pairOf.calls a1_0 a1_1 t322 t323 _ A35.out).mono ?_
      rintro e w52 ⟨rfl, hb⟩
      refine ⟨_, rfl, ?_⟩
      have n0_ := Aside0.mk (bbl_ BK313.out hb)
      have n1_ := Aside0.mk (bbl_ BK314.out hb)
      have n2_ := Aside0.mk (bbl_ BK315.out hb)
      have n3_ := Aside0.mk (bbl_ BK321.out hb)
      have n4_ := Aside0.mk (below_step qq20 hb)
      clear BK313
      clear BK314
      clear BK315
      clear BK321
      clear HB
      have BK313 := n0_
      have BK314 := n1_
      have BK315 := n2_
      have BK321 := n3_
      have HB := n4_
      clear n0_ n1_ n2_ n3_ n4_
      (try clear hb)
      (try clear hb2)
      (try clear hk)
      (try clear hi)
      refine hK.out _ _ ⟨(blk_cell BK314.out 0).trans rfl, (blk_cell BK314.out 1).trans rfl, (blk_cell BK321.out 0).trans rfl, (blk_cell BK321.out 1).trans rfl⟩ (fun hHeld => ?_)
      clear hK K
      refine norm_ (a' := ?_) ?_ ?_
      rotate_left
      ·show Act.put _ (some 26) _ = _
       simp only [Act.put, List.setIfInBounds_toArray, List.set_cons_zero, List.set_cons_succ, i64_w, i32_w]
       rfl
      refine two_ (i := 3) (j := 4) (Ni := some 28) (Nj := some 9) #[true, true, true, true, false, false] #[true, true, true, false, true, false] rfl rfl rfl rfl (by kernel_rfl) (by decide) (by decide) (fun K hK => ?_) (fun K hK => ?_)
      ·skip
       refine goes_ Try.func80 (by kernel_rfl) rfl #[.agg #[.int .i64 t322, .int .i64 t323], .agg #[.int .i64 t319, .int .i64 t320]] (by rfl) rfl rfl qq3 ?_
       with_reducible refine (impl_pair_minus.calls t322 t323 t319 t320 t324 t325 _ A36.out).mono ?_
       rintro e w53 ⟨rfl, hb⟩
       refine ⟨_, rfl, ?_⟩
       have n0_ := Aside0.mk (bbl_ BK313.out hb)
       have n1_ := Aside0.mk (bbl_ BK314.out hb)
       have n2_ := Aside0.mk (bbl_ BK315.out hb)
       have n3_ := Aside0.mk (bbl_ BK321.out hb)
       have n4_ := Aside0.mk (below_step qq20 hb)
       clear BK313
       clear BK314
       clear BK315
       clear BK321
       clear HB
       have BK313 := n0_
       have BK314 := n1_
       have BK315 := n2_
       have BK321 := n3_
       have HB := n4_
       clear n0_ n1_ n2_ n3_ n4_
       (try clear hb)
       (try clear hb2)
       (try clear hk)
       (try clear hi)
       refine hK.out _ _ ⟨(blk_cell BK314.out 0).trans rfl, (blk_cell BK314.out 1).trans rfl, (blk_cell BK321.out 0).trans rfl, (blk_cell BK321.out 1).trans rfl⟩ (fun hHeld => ?_)
       clear hK K
       refine norm_ (a' := ?_) ?_ ?_
       rotate_left
       ·show Act.put _ (some 28) _ = _
        simp only [Act.put, List.setIfInBounds_toArray, List.set_cons_zero, List.set_cons_succ, i64_w, i32_w]
        rfl
       refine one_ (i := 4) (N := some 9) #[true, true, true, true, true, false] rfl rfl (by kernel_rfl) (by decide) (fun K hK => ?_)
       refine box_step ?hg (N := 9) ?hd (cs := #[.int .i64 0, .int .i64 0]) (t := 66) ?hr ?_; (case hd => rfl); (case hg => rfl); (case hr => exact qq22)
       intro gb326 hg w54 hbox hb
       have n0_ := Aside0.mk (bbl_ BK313.out hb)
       have n1_ := Aside0.mk (bbl_ BK314.out hb)
       have n2_ := Aside0.mk (bbl_ BK315.out hb)
       have n3_ := Aside0.mk (bbl_ BK321.out hb)
       have n4_ := Aside0.mk (below_step qq20 hb)
       have n5_ := Aside0.mk (hbox)
       have n6_ := Aside0.mk ((qq74 : w.heap.size ≤ gb326))
       have n7_ := Aside0.mk ((qq74 : w.heap.size ≤ gb326))
       have n8_ := Aside0.mk ((qq31 BK313.out : gb313 ≠ gb326))
       have n9_ := Aside0.mk ((qq32 BK313.out : gb326 ≠ gb313))
       have n10_ := Aside0.mk ((qq31 BK314.out : gb314 ≠ gb326))
       have n11_ := Aside0.mk ((qq32 BK314.out : gb326 ≠ gb314))
       have n12_ := Aside0.mk ((qq31 BK315.out : gb315 ≠ gb326))
       have n13_ := Aside0.mk ((qq32 BK315.out : gb326 ≠ gb315))
       have n14_ := Aside0.mk ((qq31 BK321.out : gb321 ≠ gb326))
       have n15_ := Aside0.mk ((qq32 BK321.out : gb326 ≠ gb321))
       clear BK313
       clear BK314
       clear BK315
       clear BK321
       clear HB
       have BK313 := n0_
       have BK314 := n1_
       have BK315 := n2_
       have BK321 := n3_
       have HB := n4_
       have BK326 := n5_
       have GW326 := n6_
       have GE326 := n7_
       have NB313_326 := n8_
       have NB326_313 := n9_
       have NB314_326 := n10_
       have NB326_314 := n11_
       have NB315_326 := n12_
       have NB326_315 := n13_
       have NB321_326 := n14_
       have NB326_321 := n15_
       clear n0_ n1_ n2_ n3_ n4_ n5_ n6_ n7_ n8_ n9_ n10_ n11_ n12_ n13_ n14_ n15_
       clear hb hbox hg
       refine hK.out _ _ ⟨(blk_cell BK314.out 0).trans rfl, (blk_cell BK314.out 1).trans rfl, (blk_cell BK321.out 0).trans rfl, (blk_cell BK321.out 1).trans rfl⟩ (fun hHeld => ?_)
       clear hK K
       refine norm_ (a' := ?_) ?_ ?_
       rotate_left
       ·show Act.put _ (some 9) _ = _
        simp only [Act.put, List.setIfInBounds_toArray, List.set_cons_zero, List.set_cons_succ, i64_w, i32_w]
        rfl
       exact norm_ qq67 (hCont (gb326) _ ⟨hHeld, (qq12 BK313.out), (qq12 BK314.out), (qq12 BK315.out), (qq12 BK321.out), (qq12 BK326.out), GW326.out, GE326.out, NB313_326.out, NB326_313.out, NB314_326.out, NB326_314.out, NB315_326.out, NB326_315.out, NB321_326.out, NB326_321.out, qq19⟩)
      ·skip
       refine box_step ?hg (N := 9) ?hd (cs := #[.int .i64 0, .int .i64 0]) (t := 66) ?hr ?_; (case hd => rfl); (case hg => rfl); (case hr => exact qq22)
       intro gb326 hg w53 hbox hb
       have n0_ := Aside0.mk (bbl_ BK313.out hb)
       have n1_ := Aside0.mk (bbl_ BK314.out hb)
       have n2_ := Aside0.mk (bbl_ BK315.out hb)
       have n3_ := Aside0.mk (bbl_ BK321.out hb)
       have n4_ := Aside0.mk (below_step qq20 hb)
       have n5_ := Aside0.mk (hbox)
       have n6_ := Aside0.mk ((qq74 : w.heap.size ≤ gb326))
       have n7_ := Aside0.mk ((qq74 : w.heap.size ≤ gb326))
       have n8_ := Aside0.mk ((qq31 BK313.out : gb313 ≠ gb326))
       have n9_ := Aside0.mk ((qq32 BK313.out : gb326 ≠ gb313))
       have n10_ := Aside0.mk ((qq31 BK314.out : gb314 ≠ gb326))
       have n11_ := Aside0.mk ((qq32 BK314.out : gb326 ≠ gb314))
       have n12_ := Aside0.mk ((qq31 BK315.out : gb315 ≠ gb326))
       have n13_ := Aside0.mk ((qq32 BK315.out : gb326 ≠ gb315))
       have n14_ := Aside0.mk ((qq31 BK321.out : gb321 ≠ gb326))
       have n15_ := Aside0.mk ((qq32 BK321.out : gb326 ≠ gb321))
       clear BK313
       clear BK314
       clear BK315
       clear BK321
       clear HB
       have BK313 := n0_
       have BK314 := n1_
       have BK315 := n2_
       have BK321 := n3_
       have HB := n4_
       have BK326 := n5_
       have GW326 := n6_
       have GE326 := n7_
       have NB313_326 := n8_
       have NB326_313 := n9_
       have NB314_326 := n10_
       have NB326_314 := n11_
       have NB315_326 := n12_
       have NB326_315 := n13_
       have NB321_326 := n14_
       have NB326_321 := n15_
       clear n0_ n1_ n2_ n3_ n4_ n5_ n6_ n7_ n8_ n9_ n10_ n11_ n12_ n13_ n14_ n15_
       clear hb hbox hg
       refine hK.out _ _ ⟨(blk_cell BK314.out 0).trans rfl, (blk_cell BK314.out 1).trans rfl, (blk_cell BK321.out 0).trans rfl, (blk_cell BK321.out 1).trans rfl⟩ (fun hHeld => ?_)
       clear hK K
       refine norm_ (a' := ?_) ?_ ?_
       rotate_left
       ·show Act.put _ (some 9) _ = _
        simp only [Act.put, List.setIfInBounds_toArray, List.set_cons_zero, List.set_cons_succ, i64_w, i32_w]
        rfl
       refine one_ (i := 3) (N := some 28) #[true, true, true, true, true, false] rfl rfl (by kernel_rfl) (by decide) (fun K hK => ?_)
       refine goes_ Try.func80 (by kernel_rfl) rfl #[.agg #[.int .i64 t322, .int .i64 t323], .agg #[.int .i64 t319, .int .i64 t320]] (by rfl) rfl rfl qq3 ?_
       with_reducible refine (impl_pair_minus.calls t322 t323 t319 t320 t324 t325 _ A36.out).mono ?_
       rintro e w54 ⟨rfl, hb⟩
       refine ⟨_, rfl, ?_⟩
       have n0_ := Aside0.mk (bbl_ BK313.out hb)
       have n1_ := Aside0.mk (bbl_ BK314.out hb)
       have n2_ := Aside0.mk (bbl_ BK315.out hb)
       have n3_ := Aside0.mk (bbl_ BK321.out hb)
       have n4_ := Aside0.mk (bbl_ BK326.out hb)
       have n5_ := Aside0.mk (below_step qq19 hb)
       clear BK313
       clear BK314
       clear BK315
       clear BK321
       clear BK326
       clear HB
       have BK313 := n0_
       have BK314 := n1_
       have BK315 := n2_
       have BK321 := n3_
       have BK326 := n4_
       have HB := n5_
       clear n0_ n1_ n2_ n3_ n4_ n5_
       (try clear hb)
       (try clear hb2)
       (try clear hk)
       (try clear hi)
       refine hK.out _ _ ⟨(blk_cell BK314.out 0).trans rfl, (blk_cell BK314.out 1).trans rfl, (blk_cell BK321.out 0).trans rfl, (blk_cell BK321.out 1).trans rfl⟩ (fun hHeld => ?_)
       clear hK K
       refine norm_ (a' := ?_) ?_ ?_
       rotate_left
       ·show Act.put _ (some 28) _ = _
        simp only [Act.put, List.setIfInBounds_toArray, List.set_cons_zero, List.set_cons_succ, i64_w, i32_w]
        rfl
       exact norm_ qq67 (hCont (gb326) _ ⟨hHeld, (qq12 BK313.out), (qq12 BK314.out), (qq12 BK315.out), (qq12 BK321.out), (qq12 BK326.out), GW326.out, GE326.out, NB313_326.out, NB326_313.out, NB314_326.out, NB326_314.out, NB315_326.out, NB326_315.out, NB321_326.out, NB326_321.out, qq19⟩)
     ·skip
      refine box_step ?hg (N := 9) ?hd (cs := #[.int .i64 0, .int .i64 0]) (t := 66) ?hr ?_; (case hd => rfl); (case hg => rfl); (case hr => exact qq22)
      intro gb326 hg w52 hbox hb
      have n0_ := Aside0.mk (bbl_ BK313.out hb)
      have n1_ := Aside0.mk (bbl_ BK314.out hb)
      have n2_ := Aside0.mk (bbl_ BK315.out hb)
      have n3_ := Aside0.mk (bbl_ BK321.out hb)
      have n4_ := Aside0.mk (below_step qq20 hb)
      have n5_ := Aside0.mk (hbox)
      have n6_ := Aside0.mk ((qq74 : w.heap.size ≤ gb326))
      have n7_ := Aside0.mk ((qq74 : w.heap.size ≤ gb326))
      have n8_ := Aside0.mk ((qq31 BK313.out : gb313 ≠ gb326))
      have n9_ := Aside0.mk ((qq32 BK313.out : gb326 ≠ gb313))
      have n10_ := Aside0.mk ((qq31 BK314.out : gb314 ≠ gb326))
      have n11_ := Aside0.mk ((qq32 BK314.out : gb326 ≠ gb314))
      have n12_ := Aside0.mk ((qq31 BK315.out : gb315 ≠ gb326))
      have n13_ := Aside0.mk ((qq32 BK315.out : gb326 ≠ gb315))
      have n14_ := Aside0.mk ((qq31 BK321.out : gb321 ≠ gb326))
      have n15_ := Aside0.mk ((qq32 BK321.out : gb326 ≠ gb321))
      clear BK313
      clear BK314
      clear BK315
      clear BK321
      clear HB
      have BK313 := n0_
      have BK314 := n1_
      have BK315 := n2_
      have BK321 := n3_
      have HB := n4_
      have BK326 := n5_
      have GW326 := n6_
      have GE326 := n7_
      have NB313_326 := n8_
      have NB326_313 := n9_
      have NB314_326 := n10_
      have NB326_314 := n11_
      have NB315_326 := n12_
      have NB326_315 := n13_
      have NB321_326 := n14_
      have NB326_321 := n15_
      clear n0_ n1_ n2_ n3_ n4_ n5_ n6_ n7_ n8_ n9_ n10_ n11_ n12_ n13_ n14_ n15_
      clear hb hbox hg
      refine hK.out _ _ ⟨(blk_cell BK314.out 0).trans rfl, (blk_cell BK314.out 1).trans rfl, (blk_cell BK321.out 0).trans rfl, (blk_cell BK321.out 1).trans rfl⟩ (fun hHeld => ?_)
      clear hK K
      refine norm_ (a' := ?_) ?_ ?_
      rotate_left
      ·show Act.put _ (some 9) _ = _
       simp only [Act.put, List.setIfInBounds_toArray, List.set_cons_zero, List.set_cons_succ, i64_w, i32_w]
       rfl
      refine one_ (i := 1) (N := some 26) #[true, true, true, false, true, false] rfl rfl (by kernel_rfl) (by decide) (fun K hK => ?_)
      refine goes_ Try.func53 (by kernel_rfl) rfl #[.agg #[.int .i64 a1_0, .int .i64 a1_1]] (by rfl) rfl rfl qq3 ?_
      with_reducible refine (impl_pairOf.calls a1_0 a1_1 t322 t323 _ A35.out).mono ?_
      rintro e w53 ⟨rfl, hb⟩
      refine ⟨_, rfl, ?_⟩
      have n0_ := Aside0.mk (bbl_ BK313.out hb)
      have n1_ := Aside0.mk (bbl_ BK314.out hb)
      have n2_ := Aside0.mk (bbl_ BK315.out hb)
      have n3_ := Aside0.mk (bbl_ BK321.out hb)
      have n4_ := Aside0.mk (bbl_ BK326.out hb)
      have n5_ := Aside0.mk (below_step qq19 hb)
      clear BK313
      clear BK314
      clear BK315
      clear BK321
      clear BK326
      clear HB
      have BK313 := n0_
      have BK314 := n1_
      have BK315 := n2_
      have BK321 := n3_
      have BK326 := n4_
      have HB := n5_
      clear n0_ n1_ n2_ n3_ n4_ n5_
      (try clear hb)
      (try clear hb2)
      (try clear hk)
      (try clear hi)
      refine hK.out _ _ ⟨(blk_cell BK314.out 0).trans rfl, (blk_cell BK314.out 1).trans rfl, (blk_cell BK321.out 0).trans rfl, (blk_cell BK321.out 1).trans rfl⟩ (fun hHeld => ?_)
      clear hK K
      refine norm_ (a' := ?_) ?_ ?_
      rotate_left
      ·show Act.put _ (some 26) _ = _
       simp only [Act.put, List.setIfInBounds_toArray, List.set_cons_zero, List.set_cons_succ, i64_w, i32_w]
       rfl
      refine one_ (i := 3) (N := some 28) #[true, true, true, true, true, false] rfl rfl (by kernel_rfl) (by decide) (fun K hK => ?_)
      refine goes_ Try.func80 (by kernel_rfl) rfl #[.agg #[.int .i64 t322, .int .i64 t323], .agg #[.int .i64 t319, .int .i64 t320]] (by rfl) rfl rfl qq3 ?_
      with_reducible refine (impl_pair_minus.calls t322 t323 t319 t320 t324 t325 _ A36.out).mono ?_
      rintro e w54 ⟨rfl, hb⟩
      refine ⟨_, rfl, ?_⟩
      have n0_ := Aside0.mk (bbl_ BK313.out hb)
      have n1_ := Aside0.mk (bbl_ BK314.out hb)
      have n2_ := Aside0.mk (bbl_ BK315.out hb)
      have n3_ := Aside0.mk (bbl_ BK321.out hb)
      have n4_ := Aside0.mk (bbl_ BK326.out hb)
      have n5_ := Aside0.mk (below_step qq19 hb)
      clear BK313
      clear BK314
      clear BK315
      clear BK321
      clear BK326
      clear HB
      have BK313 := n0_
      have BK314 := n1_
      have BK315 := n2_
      have BK321 := n3_
      have BK326 := n4_
      have HB := n5_
      clear n0_ n1_ n2_ n3_ n4_ n5_
      (try clear hb)
      (try clear hb2)
      (try clear hk)
      (try clear hi)
      refine hK.out _ _ ⟨(blk_cell BK314.out 0).trans rfl, (blk_cell BK314.out 1).trans rfl, (blk_cell BK321.out 0).trans rfl, (blk_cell BK321.out 1).trans rfl⟩ (fun hHeld => ?_)
      clear hK K
      refine norm_ (a' := ?_) ?_ ?_
      rotate_left
      ·show Act.put _ (some 28) _ = _
       simp only [Act.put, List.setIfInBounds_toArray, List.set_cons_zero, List.set_cons_succ, i64_w, i32_w]
       rfl
      exact norm_ qq67 (hCont (gb326) _ ⟨hHeld, (qq12 BK313.out), (qq12 BK314.out), (qq12 BK315.out), (qq12 BK321.out), (qq12 BK326.out), GW326.out, GE326.out, NB313_326.out, NB326_313.out, NB314_326.out, NB326_314.out, NB315_326.out, NB326_315.out, NB321_326.out, NB326_321.out, qq19⟩)
    rintro gb326 w55 ⟨hS_, h0_, h1_, h2_, h3_, h4_, h5_, h6_, h7_, h8_, h9_, h10_, h11_, h12_, h13_, h14_, h15_⟩
    have n0_ : Aside0 (w55.heap[gb313]? = some (.cells #[.int .i64 a0_0, .int .i64 a0_1] 32 (0, 0))) := ⟨h0_⟩
    have n1_ : Aside0 (w55.heap[gb314]? = some (.cells #[.int .i64 a1_0, .int .i64 a1_1] 32 (0, 0))) := ⟨h1_⟩
    have n2_ : Aside0 (w55.heap[gb315]? = some (.cells #[.int .i64 a2_0, .int .i64 a2_1] 32 (0, 0))) := ⟨h2_⟩
    have n3_ : Aside0 (w55.heap[gb321]? = some (.cells #[.int .i64 t319, .int .i64 t320] 66 (0, 0))) := ⟨h3_⟩
    have n4_ : Aside0 (w55.heap[gb326]? = some (.cells #[.int .i64 0, .int .i64 0] 66 (0, 0))) := ⟨h4_⟩
    have n5_ : Aside0 (w.heap.size ≤ gb326) := ⟨h5_⟩
    have n6_ : Aside0 (w.heap.size ≤ gb326) := ⟨h6_⟩
    have n7_ : Aside0 (gb313 ≠ gb326) := ⟨h7_⟩
    have n8_ : Aside0 (gb326 ≠ gb313) := ⟨h8_⟩
    have n9_ : Aside0 (gb314 ≠ gb326) := ⟨h9_⟩
    have n10_ : Aside0 (gb326 ≠ gb314) := ⟨h10_⟩
    have n11_ : Aside0 (gb315 ≠ gb326) := ⟨h11_⟩
    have n12_ : Aside0 (gb326 ≠ gb315) := ⟨h12_⟩
    have n13_ : Aside0 (gb321 ≠ gb326) := ⟨h13_⟩
    have n14_ : Aside0 (gb326 ≠ gb321) := ⟨h14_⟩
    have n15_ : Aside0 (Below w.heap.size w w55) := ⟨h15_⟩
    clear BK313
    clear BK314
    clear BK315
    clear BK321
    clear HB
    clear h0_ h1_ h2_ h3_ h4_ h5_ h6_ h7_ h8_ h9_ h10_ h11_ h12_ h13_ h14_ h15_
    have BK313 := n0_
    have BK314 := n1_
    have BK315 := n2_
    have BK321 := n3_
    have BK326 := n4_
    have GW326 := n5_
    have GE326 := n6_
    have NB313_326 := n7_
    have NB326_313 := n8_
    have NB314_326 := n9_
    have NB326_314 := n10_
    have NB315_326 := n11_
    have NB326_315 := n12_
    have NB321_326 := n13_
    have NB326_321 := n14_
    have HB := n15_
    clear n0_ n1_ n2_ n3_ n4_ n5_ n6_ n7_ n8_ n9_ n10_ n11_ n12_ n13_ n14_ n15_
    have hHeld : w55.cell? ⟨gb314, 0, none⟩ = some (.int .i64 a1_0) ∧ w55.cell? ⟨gb314, 1, none⟩ = some (.int .i64 a1_1) ∧ w55.cell? ⟨gb321, 0, none⟩ = some (.int .i64 t319) ∧ w55.cell? ⟨gb321, 1, none⟩ = some (.int .i64 t320) := hS_
    refine norm_ (a' := ?_) ?_ ?_
    rotate_left
    ·simp only [putAll, Act.put, List.setIfInBounds_toArray, List.set_cons_zero, List.set_cons_succ]
     rfl
    refine one_ (i := 5) (N := none) #[true, true, true, true, true, true] rfl rfl (by kernel_rfl) (by decide) (fun K hK => ?_)
    have hs56 : w55.cell? ⟨gb326, 0, none⟩ = some (.int .i64 0) := (blk_cell BK326.out 0).trans rfl
    have hfs56 := blk_frozen BK326.out 0
    have hns56_0 := NB313_326.out
    have hns56_1 := NB314_326.out
    have hns56_2 := NB315_326.out
    have hns56_3 := NB321_326.out
    have hms56_0 := NB326_313.out
    have hms56_1 := NB326_314.out
    have hms56_2 := NB326_315.out
    have hms56_3 := NB326_321.out
    have hs57 : w55.cell? ⟨gb326, 1, none⟩ = some (.int .i64 0) := (blk_cell BK326.out 1).trans rfl
    have hfs57 := blk_frozen BK326.out 1
    have hns57_0 := NB313_326.out
    have hns57_1 := NB314_326.out
    have hns57_2 := NB315_326.out
    have hns57_3 := NB321_326.out
    have hms57_0 := NB326_313.out
    have hms57_1 := NB326_314.out
    have hms57_2 := NB326_315.out
    have hms57_3 := NB326_321.out
    refine skip_ (w1 := ?_) (by rfl) rfl ?_ ?_
    rotate_left
    ·go_simp
     rfl
    refine hK.out _ _ ⟨((cell_far (p := ⟨gb326, _, none⟩) NB314_326.out _).trans (((cell_far (p := ⟨gb326, _, none⟩) NB314_326.out _).trans (hHeld.1)))), ((cell_far (p := ⟨gb326, _, none⟩) NB314_326.out _).trans (((cell_far (p := ⟨gb326, _, none⟩) NB314_326.out _).trans (hHeld.2.1)))), ((cell_far (p := ⟨gb326, _, none⟩) NB321_326.out _).trans (((cell_far (p := ⟨gb326, _, none⟩) NB321_326.out _).trans (hHeld.2.2.1)))), ((cell_far (p := ⟨gb326, _, none⟩) NB321_326.out _).trans (((cell_far (p := ⟨gb326, _, none⟩) NB321_326.out _).trans (hHeld.2.2.2))))⟩ (fun hHeld => ?_)
    clear hK K
    refine done_ (by kernel_rfl) ?_
    try go_wp2
    have n0_ : Aside0 (((w55.setCell ⟨gb326, 0, none⟩ (.int .i64 t324)).setCell ⟨gb326, 1, none⟩ (.int .i64 t325)).heap[gb313]? = some (.cells #[.int .i64 a0_0, .int .i64 a0_1] 32 (0, 0))) := ⟨qq17 NB313_326.out BK313.out⟩
    have n1_ : Aside0 (((w55.setCell ⟨gb326, 0, none⟩ (.int .i64 t324)).setCell ⟨gb326, 1, none⟩ (.int .i64 t325)).heap[gb314]? = some (.cells #[.int .i64 a1_0, .int .i64 a1_1] 32 (0, 0))) := ⟨qq17 NB314_326.out BK314.out⟩
    have n2_ : Aside0 (((w55.setCell ⟨gb326, 0, none⟩ (.int .i64 t324)).setCell ⟨gb326, 1, none⟩ (.int .i64 t325)).heap[gb315]? = some (.cells #[.int .i64 a2_0, .int .i64 a2_1] 32 (0, 0))) := ⟨qq17 NB315_326.out BK315.out⟩
    have n3_ : Aside0 (((w55.setCell ⟨gb326, 0, none⟩ (.int .i64 t324)).setCell ⟨gb326, 1, none⟩ (.int .i64 t325)).heap[gb321]? = some (.cells #[.int .i64 t319, .int .i64 t320] 66 (0, 0))) := ⟨qq17 NB321_326.out BK321.out⟩
    have n4_ : Aside0 (((w55.setCell ⟨gb326, 0, none⟩ (.int .i64 t324)).setCell ⟨gb326, 1, none⟩ (.int .i64 t325)).heap[gb326]? = some (.cells #[.int .i64 t324, .int .i64 t325] 66 (0, 0))) := ⟨by (with_reducible repeat (first | refine blk_drewN ?_ _ | refine blk_drew ?_ | refine blk_alloc ?_ _)); refine blk_put (cs := #[.int .i64 t324, .int .i64 0]) ?_ 1 _ rfl; (with_reducible repeat (first | refine blk_drewN ?_ _ | refine blk_drew ?_ | refine blk_alloc ?_ _)); refine blk_put (cs := #[.int .i64 0, .int .i64 0]) ?_ 0 _ rfl; (with_reducible repeat (first | refine blk_drewN ?_ _ | refine blk_drew ?_ | refine blk_alloc ?_ _)); exact BK326.out⟩
    have n5_ : Aside0 (Below w.heap.size w ((w55.setCell ⟨gb326, 0, none⟩ (.int .i64 t324)).setCell ⟨gb326, 1, none⟩ (.int .i64 t325))) := ⟨qq19⟩
    (try clear BK313)
    (try clear BK314)
    (try clear BK315)
    (try clear BK321)
    (try clear BK326)
    (try clear HB)
    generalize ((w55.setCell ⟨gb326, 0, none⟩ (.int .i64 t324)).setCell ⟨gb326, 1, none⟩ (.int .i64 t325)) = w58 at n0_ n1_ n2_ n3_ n4_ n5_ ⊢
    have BK313 := n0_
    have BK314 := n1_
    have BK315 := n2_
    have BK321 := n3_
    have BK326 := n4_
    have HB := n5_
    clear n0_ n1_ n2_ n3_ n4_ n5_
    have n0_ := Aside0.mk (blk_drew BK313.out)
    have n1_ := Aside0.mk (blk_drew BK314.out)
    have n2_ := Aside0.mk (blk_drew BK315.out)
    have n3_ := Aside0.mk (blk_drew BK321.out)
    have n4_ := Aside0.mk (blk_drew BK326.out)
    have n5_ := Aside0.mk (below_drew1 HB.out)
    clear BK313
    clear BK314
    clear BK315
    clear BK321
    clear BK326
    clear HB
    have BK313 := n0_
    have BK314 := n1_
    have BK315 := n2_
    have BK321 := n3_
    have BK326 := n4_
    have HB := n5_
    clear n0_ n1_ n2_ n3_ n4_ n5_
    refine start_ (n := 9) (S := fun w' => w'.cell? ⟨gb326, 0, none⟩ = some (.int .i64 t324) ∧ w'.cell? ⟨gb326, 1, none⟩ = some (.int .i64 t325) ∧ w'.cell? ⟨gb315, 0, none⟩ = some (.int .i64 a2_0) ∧ w'.cell? ⟨gb315, 1, none⟩ = some (.int .i64 a2_1) ∧ w'.cell? ⟨gb321, 0, none⟩ = some (.int .i64 t319) ∧ w'.cell? ⟨gb321, 1, none⟩ = some (.int .i64 t320)) (ds := []) #[false, false, false, false, false, false, false, false, false] (by kernel_rfl) rfl rfl ⟨(blk_cell BK326.out 0).trans rfl, (blk_cell BK326.out 1).trans rfl, (blk_cell BK315.out 0).trans rfl, (blk_cell BK315.out 1).trans rfl, (blk_cell BK321.out 0).trans rfl, (blk_cell BK321.out 1).trans rfl⟩ (fun hHeld => ?_); refine with_tabW impl_PointSide.tab5 impl_PointSide.bits5 (fun HT_ HW_ => ?_)
    generalize w58.drew = w59 at BK313 BK314 BK315 BK321 BK326 HB hHeld ⊢
    refine take_ (i := 0) (N := some 29) (v := ?_) (a' := ?_) #[true, false, false, false, false, false, false, false, false] rfl rfl (take_ofW HT_.out HW_.out (by kernel_rfl)) (fun _ _ _ h => h) (Or.inl ⟨by rfl, ?_⟩) hHeld ?_ ?_
    rotate_left
    ·rintro w' ⟨s0, s1, s2, s3, s4, s5⟩
     go_simp
     with_reducible rfl
    rotate_left
    ·simp only [Act.put, List.setIfInBounds_toArray, List.set_cons_zero, List.set_cons_succ, i64_w, i32_w]
     rfl
    refine take_ (i := 1) (N := some 30) (v := ?_) (a' := ?_) #[true, true, false, false, false, false, false, false, false] rfl rfl (take_ofW HT_.out HW_.out (by kernel_rfl)) (fun _ _ _ h => h) (Or.inl ⟨by rfl, ?_⟩) hHeld ?_ ?_
    rotate_left
    ·rintro w' ⟨s0, s1, s2, s3, s4, s5⟩
     go_simp
     with_reducible rfl
    rotate_left
    ·simp only [Act.put, List.setIfInBounds_toArray, List.set_cons_zero, List.set_cons_succ, i64_w, i32_w]
     rfl
    refine take_ (i := 3) (N := some 32) (v := ?_) (a' := ?_) #[true, true, false, true, false, false, false, false, false] rfl rfl (take_ofW HT_.out HW_.out (by kernel_rfl)) (fun _ _ _ h => h) (Or.inl ⟨by rfl, ?_⟩) hHeld ?_ ?_
    rotate_left
    ·rintro w' ⟨s0, s1, s2, s3, s4, s5⟩
     go_simp
     with_reducible rfl
    rotate_left
    ·simp only [Act.put, List.setIfInBounds_toArray, List.set_cons_zero, List.set_cons_succ, i64_w, i32_w]
     rfl
    refine one_ (i := 2) (N := some 31) #[true, true, true, true, false, false, false, false, false] rfl rfl (one_of HT_.out (by kernel_rfl)) (by decide) (fun K hK => ?_)
    refine goes_ Try.func53 (by kernel_rfl) rfl #[.agg #[.int .i64 a2_0, .int .i64 a2_1]] (by rfl) rfl rfl qq3 ?_
    with_reducible refine (impl_pairOf.calls a2_0 a2_1 t327 t328 _ A37.out).mono ?_
    rintro e w60 ⟨rfl, hb⟩
    refine ⟨_, rfl, ?_⟩
    have n0_ := Aside0.mk (bbl_ BK313.out hb)
    have n1_ := Aside0.mk (bbl_ BK314.out hb)
    have n2_ := Aside0.mk (bbl_ BK315.out hb)
    have n3_ := Aside0.mk (bbl_ BK321.out hb)
    have n4_ := Aside0.mk (bbl_ BK326.out hb)
    have n5_ := Aside0.mk (below_step qq19 hb)
    clear BK313
    clear BK314
    clear BK315
    clear BK321
    clear BK326
    clear HB
    have BK313 := n0_
    have BK314 := n1_
    have BK315 := n2_
    have BK321 := n3_
    have BK326 := n4_
    have HB := n5_
    clear n0_ n1_ n2_ n3_ n4_ n5_
    (try clear hb)
    (try clear hb2)
    (try clear hk)
    (try clear hi)
    refine hK.out _ _ ⟨(blk_cell BK326.out 0).trans rfl, (blk_cell BK326.out 1).trans rfl, (blk_cell BK315.out 0).trans rfl, (blk_cell BK315.out 1).trans rfl, (blk_cell BK321.out 0).trans rfl, (blk_cell BK321.out 1).trans rfl⟩ (fun hHeld => ?_)
    clear hK K
    refine norm_ (a' := ?_) ?_ ?_
    rotate_left
    ·show Act.put _ (some 31) _ = _
     simp only [Act.put, List.setIfInBounds_toArray, List.set_cons_zero, List.set_cons_succ, i64_w, i32_w]
     rfl
    refine one_ (i := 4) (N := some 33) #[true, true, true, true, true, false, false, false, false] rfl rfl (one_of HT_.out (by kernel_rfl)) (by decide) (fun K hK => ?_)
    refine goes_ Try.func80 (by kernel_rfl) rfl #[.agg #[.int .i64 t327, .int .i64 t328], .agg #[.int .i64 t319, .int .i64 t320]] (by rfl) rfl rfl qq3 ?_
    with_reducible refine (impl_pair_minus.calls t327 t328 t319 t320 t329 t330 _ A38.out).mono ?_
    rintro e w61 ⟨rfl, hb⟩
    refine ⟨_, rfl, ?_⟩
    have n0_ := Aside0.mk (bbl_ BK313.out hb)
    have n1_ := Aside0.mk (bbl_ BK314.out hb)
    have n2_ := Aside0.mk (bbl_ BK315.out hb)
    have n3_ := Aside0.mk (bbl_ BK321.out hb)
    have n4_ := Aside0.mk (bbl_ BK326.out hb)
    have n5_ := Aside0.mk (below_step qq19 hb)
    clear BK313
    clear BK314
    clear BK315
    clear BK321
    clear BK326
    clear HB
    have BK313 := n0_
    have BK314 := n1_
    have BK315 := n2_
    have BK321 := n3_
    have BK326 := n4_
    have HB := n5_
    clear n0_ n1_ n2_ n3_ n4_ n5_
    (try clear hb)
    (try clear hb2)
    (try clear hk)
    (try clear hi)
    refine hK.out _ _ ⟨(blk_cell BK326.out 0).trans rfl, (blk_cell BK326.out 1).trans rfl, (blk_cell BK315.out 0).trans rfl, (blk_cell BK315.out 1).trans rfl, (blk_cell BK321.out 0).trans rfl, (blk_cell BK321.out 1).trans rfl⟩ (fun hHeld => ?_)
    clear hK K
    refine norm_ (a' := ?_) ?_ ?_
    rotate_left
    ·show Act.put _ (some 33) _ = _
     simp only [Act.put, List.setIfInBounds_toArray, List.set_cons_zero, List.set_cons_succ, i64_w, i32_w]
     rfl
    refine one_ (i := 5) (N := some 34) #[true, true, true, true, true, true, false, false, false] rfl rfl (one_of HT_.out (by kernel_rfl)) (by decide) (fun K hK => ?_)
    refine goes_ Try.func74 (by kernel_rfl) rfl #[.agg #[.int .i64 t324, .int .i64 t325], .agg #[.int .i64 t329, .int .i64 t330]] (by rfl) rfl rfl qq3 ?_
    with_reducible refine (impl_pair_cross.calls t324 t325 t329 t330 t331 _ A39.out).mono ?_
    rintro e w62 ⟨rfl, hb⟩
    refine ⟨_, rfl, ?_⟩
    have n0_ := Aside0.mk (bbl_ BK313.out hb)
    have n1_ := Aside0.mk (bbl_ BK314.out hb)
    have n2_ := Aside0.mk (bbl_ BK315.out hb)
    have n3_ := Aside0.mk (bbl_ BK321.out hb)
    have n4_ := Aside0.mk (bbl_ BK326.out hb)
    have n5_ := Aside0.mk (below_step qq19 hb)
    clear BK313
    clear BK314
    clear BK315
    clear BK321
    clear BK326
    clear HB
    have BK313 := n0_
    have BK314 := n1_
    have BK315 := n2_
    have BK321 := n3_
    have BK326 := n4_
    have HB := n5_
    clear n0_ n1_ n2_ n3_ n4_ n5_
    (try clear hb)
    (try clear hb2)
    (try clear hk)
    (try clear hi)
    refine hK.out _ _ ⟨(blk_cell BK326.out 0).trans rfl, (blk_cell BK326.out 1).trans rfl, (blk_cell BK315.out 0).trans rfl, (blk_cell BK315.out 1).trans rfl, (blk_cell BK321.out 0).trans rfl, (blk_cell BK321.out 1).trans rfl⟩ (fun hHeld => ?_)
    clear hK K
    refine norm_ (a' := ?_) ?_ ?_
    rotate_left
    ·show Act.put _ (some 34) _ = _
     simp only [Act.put, List.setIfInBounds_toArray, List.set_cons_zero, List.set_cons_succ, i64_w, i32_w]
     rfl
    refine one_ (i := 6) (N := some 35) #[true, true, true, true, true, true, true, false, false] rfl rfl (one_of HT_.out (by kernel_rfl)) (by decide) (fun K hK => ?_)
    refine goes_ Try.func60 (by kernel_rfl) rfl #[.int .i64 t331] (by rfl) rfl rfl qq3 ?_
    with_reducible refine (impl_signInt.calls t331 t332 _ A40.out).mono ?_
    rintro e w' ⟨rfl, ⟨nd, rfl⟩⟩
    refine ⟨_, rfl, ?_⟩
    refine hK.out _ _ ⟨(blk_cell BK326.out 0).trans rfl, (blk_cell BK326.out 1).trans rfl, (blk_cell BK315.out 0).trans rfl, (blk_cell BK315.out 1).trans rfl, (blk_cell BK321.out 0).trans rfl, (blk_cell BK321.out 1).trans rfl⟩ (fun hHeld => ?_)
    clear hK K
    refine norm_ (a' := ?_) ?_ ?_
    rotate_left
    ·show Act.put _ (some 35) _ = _
     simp only [Act.put, List.setIfInBounds_toArray, List.set_cons_zero, List.set_cons_succ, i64_w, i32_w]
     rfl
    refine pure_ (i := 7) (N := some 6) #[true, true, true, true, true, true, true, true, false] rfl rfl (any_of HT_.out (by kernel_rfl)) (fun _ _ _ h => h) (Or.inl ⟨by rfl, pA_⟩) pB_ ?_
    refine pure_ (i := 8) (N := some 7) #[true, true, true, true, true, true, true, true, true] rfl rfl (any_of HT_.out (by kernel_rfl)) (fun _ _ _ h => h) (Or.inl ⟨by rfl, pA_⟩) pB_ ?_
    refine done_ (done_of HT_.out (by kernel_rfl)) ?_
    try go_wp2
    go_ret2
    exact ⟨qq10, qq19⟩

end Go.Proofs.Ytgdhgncdpmalcaa.Q
namespace Go.Proofs.Ytgdhgncdpmalcaa.Pure
open Go.RowKit Go.Proofs.Ytgdhgncdpmalcaa.Q Go.Proofs.YtgdhgncdpmalcaaW.PrintWords Go.Proofs.YtgdhgncdpmalcaaW.PrintLast Go.Proofs.YtgdhgncdpmalcaaW.PrintMore

/-- The cross product of the steps from the first point to the others. -/
def crs (a b c d e f : Int) : Int := (c - a) * (f - b) - (d - b) * (e - a)
def sgn (x : Int) : Int := if x < 0 then -1 else if x > 0 then 1 else 0
/-- What PointSide answers. -/
def sideR (a b c d e f : Int) : Int × Bool := if PV a b = true ∧ PV c d = true ∧ PV e f = true then (sgn (crs a b c d e f), true) else (0, false)
theorem sideR_yes {a b c d e f : Int} (h : PV a b = true) (h' : PV c d = true) (h'' : PV e f = true) : sideR a b c d e f = (sgn (crs a b c d e f), true) := if_pos ⟨h, h', h''⟩
theorem sideR_no {a b c d e f : Int} (h : ¬ (PV a b = true ∧ PV c d = true ∧ PV e f = true)) : sideR a b c d e f = (0, false) := if_neg h

theorem l1Sign_eq (x : Int) : spec_l1Sign.f x = some (sgn x) := by
  unfold spec_l1Sign.f sgn mx mn
  congr 1
  repeat' split
  all_goals omega
theorem signInt_eq (x : Int) : impl_signInt.f x = some (sgn x) := by
  unfold impl_signInt.f sgn
  repeat' split
  all_goals rfl

theorem spec_l2Step_eq {a b c d : Int} (h : PV a b = true) (h' : PV c d = true) : spec_l2Step.f a b c d = some (c - a, d - b) := by
  have := PV_iff.1 h; have := PV_iff.1 h'
  unfold spec_l2Step.f
  rw [w64 (by omega) (by omega), w64 (by omega) (by omega)]

theorem spec_cross_eq {a b c d e f : Int} (h : PV a b = true) (h' : PV c d = true) (h'' : PV e f = true) : spec_l2Cross.f (c - a) (d - b) (e - a) (f - b) = some (crs a b c d e f) := by
  have := PV_iff.1 h; have := PV_iff.1 h'; have := PV_iff.1 h''
  have h1 := mul_bd (x := c - a) (y := f - b) (m := 20000) (n := 20000) (by omega) (by omega) (by omega) (by omega)
  have h2 := mul_bd (x := d - b) (y := e - a) (m := 20000) (n := 20000) (by omega) (by omega) (by omega) (by omega)
  unfold spec_l2Cross.f crs
  rw [w64 (x := (c - a) * (f - b)) (by omega) (by omega), w64 (x := (d - b) * (e - a)) (by omega) (by omega), w64 (by omega) (by omega)]

theorem impl_cross_eq {a b c d e f : Int} (h : PV a b = true) (h' : PV c d = true) (h'' : PV e f = true) : impl_pair_cross.f (c - a) (d - b) (e - a) (f - b) = some (crs a b c d e f) := by
  have := PV_iff.1 h; have := PV_iff.1 h'; have := PV_iff.1 h''
  have h1 := mul_bd (x := c - a) (y := f - b) (m := 20000) (n := 20000) (by omega) (by omega) (by omega) (by omega)
  have h2 := mul_bd (x := d - b) (y := e - a) (m := 20000) (n := 20000) (by omega) (by omega) (by omega) (by omega)
  unfold impl_pair_cross.f crs
  rw [Int.mul_comm (e - a) (d - b), w64 (x := (c - a) * (f - b)) (by omega) (by omega), w64 (x := (d - b) * (e - a)) (by omega) (by omega), w64 (by omega) (by omega)]

theorem impl_PointSide_eq (k : Nat) (a b c d e f : Int) : impl_PointSide.f (k + 1) a b c d e f = some (sideR a b c d e f) := by
  simp only [impl_PointSide.f, impl_PointValid_eq, Option.bind_some, impl_PointSide.j0, impl_pairOf.f, impl_pair_minus.f]
  by_cases h : PV a b = true
  · by_cases h' : PV c d = true
    · by_cases h'' : PV e f = true
      · rw [if_pos h, if_pos h', if_neg (by simp [h''])]
        have := PV_iff.1 h; have := PV_iff.1 h'; have := PV_iff.1 h''
        rw [w64 (x := c - a) (by omega) (by omega), w64 (x := d - b) (by omega) (by omega), w64 (x := e - a) (by omega) (by omega), w64 (x := f - b) (by omega) (by omega)]
        simp only [impl_cross_eq h h' h'', Option.bind_some, signInt_eq, sideR_yes h h' h'']
      · rw [if_pos h, if_pos h', if_pos (by simp [h'']), sideR_no (by simp [h''])]
    · rw [if_pos h, if_neg h', if_pos trivial, sideR_no (by simp [h'])]
  · rw [if_neg h, if_pos trivial, sideR_no (by simp [h])]

theorem sgn_zero {x : Int} : sgn x = 0 ↔ x = 0 := by
  unfold sgn
  repeat' split
  all_goals omega

end Go.Proofs.Ytgdhgncdpmalcaa.Pure
namespace Go.Proofs.Ytgdhgncdpmalcaa.Q
open Go.RowKit Go.Proofs.YtgdhgncdpmalcaaW.PrintWords Go.Proofs.YtgdhgncdpmalcaaW.PrintLast Go.Proofs.YtgdhgncdpmalcaaW.PrintMore
attribute [local go_sem] max2_int min2_int max_two min_two max_three min_three max_four min_four
set_option linter.unusedVariables false
set_option linter.unusedSimpArgs false

/-! ### impl_PointOn: function 79 -/
def impl_PointOn.j0 : Nat → Bool → Int → Int → Int → Int → Int → Int → Option (Bool)
 | 0, _, _, _, _, _, _, _ => none
 | k + 1, x21, x334000, x334001, x335000, x335001, x336000, x336001 => if x21 = true then (some false) else ((impl_between.f x334000 x335000 x336000).bind fun t338 => (if t338 = true then ((impl_between.f x334001 x335001 x336001).bind fun t339 => (some t339)) else (some false)))
def impl_PointOn.f (k : Nat) (a0_0 : Int) (a0_1 : Int) (a1_0 : Int) (a1_1 : Int) (a2_0 : Int) (a2_1 : Int) : Option (Bool) := (impl_PointSide.f k a0_0 a0_1 a1_0 a1_1 a2_0 a2_1).bind fun bt336 => (if bt336.2 = true then (impl_PointOn.j0 k (bt336.1 != 0) a0_0 a0_1 a1_0 a1_1 a2_0 a2_1) else (impl_PointOn.j0 k true a0_0 a0_1 a1_0 a1_1 a2_0 a2_1))
set_option maxHeartbeats 8000000 in
set_option maxRecDepth 100000 in
theorem impl_PointOn.calls (k : Nat) (a0_0 : Int) (a0_1 : Int) (a1_0 : Int) (a1_1 : Int) (a2_0 : Int) (a2_1 : Int) (r : Bool) (w : World) (h : impl_PointOn.f k a0_0 a0_1 a1_0 a1_1 a2_0 a2_1 = some r) :
  Calls Try.prog 79 #[.agg #[.int .i64 a0_0, .int .i64 a0_1], .agg #[.int .i64 a1_0, .int .i64 a1_1], .agg #[.int .i64 a2_0, .int .i64 a2_1]] w fun e w' => e = .returned (.bool r) ∧ Below w.heap.size w w' := by
 have hu32 := Try.underlying32
 have HB := Aside0.mk (Below.refl w.heap.size w)
 have H : ((impl_PointSide.f k a0_0 a0_1 a1_0 a1_1 a2_0 a2_1).bind fun bt336 => (if bt336.2 = true then (impl_PointOn.j0 k (bt336.1 != 0) a0_0 a0_1 a1_0 a1_1 a2_0 a2_1) else (impl_PointOn.j0 k true a0_0 a0_1 a1_0 a1_1 a2_0 a2_1))) = some r := h
 clear h
 replace H := Option.bind_eq_some_iff.mp H
 obtain ⟨⟨t336, t337⟩, A40, H⟩ := H
 replace H : (if t337 = true then (impl_PointOn.j0 k (t336 != 0) a0_0 a0_1 a1_0 a1_1 a2_0 a2_1) else (impl_PointOn.j0 k true a0_0 a0_1 a1_0 a1_1 a2_0 a2_1)) = some r := H
 have A4 := Aside0.mk A40
 clear A40
 have HC5 := Aside0.mk H
 clear H
 go_enter Try.func79, Try.ntmps79
 go_upto_region 2 with (first | ((with_reducible refine gate_dst (N := 3) rfl ?_); refine box_event ?hg (N := 3) ?hd (cs := #[.int .i64 a0_0, .int .i64 a0_1]) (t := 32) ?hr ?_; (case hd => rfl); (case hg => rfl); (case hr => exact qq22); intro gb333 hg w6 hbox hb; have n0_ := Aside0.mk (below_step qq1 hb); have n1_ := Aside0.mk (hbox); have n2_ := Aside0.mk ((qq35 : w.heap.size ≤ gb333)); have n3_ := Aside0.mk ((qq35 : w.heap.size ≤ gb333)); clear HB; have HB := n0_; have BK333 := n1_; have GW333 := n2_; have GE333 := n3_; clear n0_ n1_ n2_ n3_; clear hb hbox hg) | ((with_reducible refine gate_dst (N := 4) rfl ?_); refine box_event ?hg (N := 4) ?hd (cs := #[.int .i64 a1_0, .int .i64 a1_1]) (t := 32) ?hr ?_; (case hd => rfl); (case hg => rfl); (case hr => exact qq22); intro gb334 hg w7 hbox hb; have n0_ := Aside0.mk (bbl_ BK333.out hb); have n1_ := Aside0.mk (below_step (qq7 HB.out GE333.out) hb); have n2_ := Aside0.mk (hbox); have n3_ := Aside0.mk ((qq43 HB.out GE333.out : w.heap.size ≤ gb334)); have n4_ := Aside0.mk ((qq43 HB.out GE333.out : w.heap.size ≤ gb334)); have n5_ := Aside0.mk ((qq31 BK333.out : gb333 ≠ gb334)); have n6_ := Aside0.mk ((qq32 BK333.out : gb334 ≠ gb333)); clear BK333; clear HB; have BK333 := n0_; have HB := n1_; have BK334 := n2_; have GW334 := n3_; have GE334 := n4_; have NB333_334 := n5_; have NB334_333 := n6_; clear n0_ n1_ n2_ n3_ n4_ n5_ n6_; clear hb hbox hg) | ((with_reducible refine gate_dst (N := 5) rfl ?_); refine box_event ?hg (N := 5) ?hd (cs := #[.int .i64 a2_0, .int .i64 a2_1]) (t := 32) ?hr ?_; (case hd => rfl); (case hg => rfl); (case hr => exact qq22); intro gb335 hg w8 hbox hb; have n0_ := Aside0.mk (bbl_ BK333.out hb); have n1_ := Aside0.mk (bbl_ BK334.out hb); have n2_ := Aside0.mk (below_step (qq13 HB.out GE333.out GE334.out) hb); have n3_ := Aside0.mk (hbox); have n4_ := Aside0.mk ((qq54 HB.out GE333.out GE334.out : w.heap.size ≤ gb335)); have n5_ := Aside0.mk ((qq54 HB.out GE333.out GE334.out : w.heap.size ≤ gb335)); have n6_ := Aside0.mk ((qq31 BK333.out : gb333 ≠ gb335)); have n7_ := Aside0.mk ((qq32 BK333.out : gb335 ≠ gb333)); have n8_ := Aside0.mk ((qq31 BK334.out : gb334 ≠ gb335)); have n9_ := Aside0.mk ((qq32 BK334.out : gb335 ≠ gb334)); clear BK333; clear BK334; clear HB; have BK333 := n0_; have BK334 := n1_; have HB := n2_; have BK335 := n3_; have GW335 := n4_; have GE335 := n5_; have NB333_335 := n6_; have NB335_333 := n7_; have NB334_335 := n8_; have NB335_334 := n9_; clear n0_ n1_ n2_ n3_ n4_ n5_ n6_ n7_ n8_ n9_; clear hb hbox hg; have hnb9 := NB333_334.out; have hnc9 := NB334_333.out; have hnb10 := NB333_335.out; have hnc10 := NB335_333.out; have hcz11_0 : w8.cell? ⟨gb333, 0, none⟩ = some (.int .i64 a0_0) := (blk_cell BK333.out 0).trans rfl; have hcz11_1 : w8.cell? ⟨gb333, 1, none⟩ = some (.int .i64 a0_1) := (blk_cell BK333.out 1).trans rfl; have hfz11_0 := blk_frozen BK333.out 0; have hfz11_1 := blk_frozen BK333.out 1; have hnb12 := NB334_335.out; have hnc12 := NB335_334.out; have hcz13_0 : w8.cell? ⟨gb334, 0, none⟩ = some (.int .i64 a1_0) := (blk_cell BK334.out 0).trans rfl; have hcz13_1 : w8.cell? ⟨gb334, 1, none⟩ = some (.int .i64 a1_1) := (blk_cell BK334.out 1).trans rfl; have hfz13_0 := blk_frozen BK334.out 0; have hfz13_1 := blk_frozen BK334.out 1; have hcz14_0 : w8.cell? ⟨gb335, 0, none⟩ = some (.int .i64 a2_0) := (blk_cell BK335.out 0).trans rfl; have hcz14_1 : w8.cell? ⟨gb335, 1, none⟩ = some (.int .i64 a2_1) := (blk_cell BK335.out 1).trans rfl; have hfz14_0 := blk_frozen BK335.out 0; have hfz14_1 := blk_frozen BK335.out 1) | ((with_reducible refine gate_callee (f := 62) rfl ?_); refine goesL_ (some 13) rfl rfl Try.func62 (by kernel_rfl) rfl #[.agg #[.int .i64 a0_0, .int .i64 a0_1], .agg #[.int .i64 a1_0, .int .i64 a1_1], .agg #[.int .i64 a2_0, .int .i64 a2_1]] rfl qq3 ?_; (with_reducible refine (impl_PointSide.calls k a0_0 a0_1 a1_0 a1_1 a2_0 a2_1 t336 t337 _ A4.out).mono ?_); rintro e w15 ⟨rfl, hb⟩; refine ⟨_, rfl, ?_⟩; have n0_ := Aside0.mk (bbl_ BK333.out hb); have n1_ := Aside0.mk (bbl_ BK334.out hb); have n2_ := Aside0.mk (bbl_ BK335.out hb); have n3_ := Aside0.mk (below_step (qq9 HB.out GE333.out GE334.out GE335.out) hb); clear BK333; clear BK334; clear BK335; clear HB; have BK333 := n0_; have BK334 := n1_; have BK335 := n2_; have HB := n3_; clear n0_ n1_ n2_ n3_; (try clear hb); (try clear hb2); (try clear hk); (try clear hi)))
 (try simp only [Act.put, List.setIfInBounds_toArray, List.set_cons_zero, List.set_cons_succ])
 go_cut [21] (fun v21 wc => ∃ (kq : Nat) (x21_4 : Bool), v21 = .bool x21_4 ∧ Aside0 (impl_PointOn.j0 kq x21_4 a0_0 a0_1 a1_0 a1_1 a2_0 a2_1 = some r) ∧ Aside0 (kq ≤ k) ∧ Aside0 (wc.heap[gb333]? = some (.cells #[.int .i64 a0_0, .int .i64 a0_1] 32 (0, 0))) ∧ Aside0 (wc.heap[gb334]? = some (.cells #[.int .i64 a1_0, .int .i64 a1_1] 32 (0, 0))) ∧ Aside0 (wc.heap[gb335]? = some (.cells #[.int .i64 a2_0, .int .i64 a2_1] 32 (0, 0))) ∧ Aside0 (Below w.heap.size w wc))
 case first =>
  have H := HC5.out
  clear HC5
  by_cases c16 : t337 = true
  ·subst c16
   have H1 : (impl_PointOn.j0 k (t336 != 0) a0_0 a0_1 a1_0 a1_1 a2_0 a2_1) = some r := by rw [if_pos rfl] at H; exact H
   clear H
   have H := H1
   clear H1
   have H' := Aside0.mk H
   clear H
   go_wp2
   go_meet
   case rel => exact ⟨_, ((t336 != 0)), qq25, H', ⟨qq40⟩, ⟨qq12 BK333.out⟩, ⟨qq12 BK334.out⟩, ⟨qq12 BK335.out⟩, ⟨qq9 HB.out GE333.out GE334.out GE335.out⟩⟩
  ·replace c16 := Bool.eq_false_iff.mpr c16
   subst c16
   have H1 : (impl_PointOn.j0 k true a0_0 a0_1 a1_0 a1_1 a2_0 a2_1) = some r := by rw [if_neg (show ¬ (false = true) by decide)] at H; exact H
   clear H
   have H := H1
   clear H1
   have H' := Aside0.mk H
   clear H
   go_wp2
   go_meet
   case rel => exact ⟨_, (true), qq25, H', ⟨qq40⟩, ⟨qq12 BK333.out⟩, ⟨qq12 BK334.out⟩, ⟨qq12 BK335.out⟩, ⟨qq9 HB.out GE333.out GE334.out GE335.out⟩⟩
 case rest =>
  clear HC5
  try clear c1
  try clear p2
  try clear c6
  try clear c7
  try clear c9
  try clear c10
  try clear c12
  try clear c16
  try clear hcz11_0
  try clear hcz11_1
  try clear hcz13_0
  try clear hcz13_1
  try clear hcz14_0
  try clear hcz14_1
  try clear hfz11_0
  try clear hfz11_1
  try clear hfz13_0
  try clear hfz13_1
  try clear hfz14_0
  try clear hfz14_1
  obtain ⟨kq, x21_4, rfl, HA, HJ4, BK333, BK334, BK335, HB⟩ := hcut
  cases kq with
  | zero => exact absurd HA.out (by simp [impl_PointOn.j0])
  | succ kj4 =>
   have H := HA.out
   clear HA
   simp only [impl_PointOn.j0] at H
   by_cases c17 : x21_4 = true
   ·subst c17
    have H1 : (some false) = some r := by rw [if_pos rfl] at H; exact H
    clear H
    have H := H1
    clear H1
    obtain rfl := Option.some.inj H
    go_wp2
    go_ret
    exact ⟨qq10, qq9 HB.out GE333.out GE334.out GE335.out⟩
   ·replace c17 := Bool.eq_false_iff.mpr c17
    subst c17
    have H1 : ((impl_between.f a0_0 a1_0 a2_0).bind fun t338 => (if t338 = true then ((impl_between.f a0_1 a1_1 a2_1).bind fun t339 => (some t339)) else (some false))) = some r := by rw [if_neg (show ¬ (false = true) by decide)] at H; exact H
    clear H
    have H := H1
    clear H1
    replace H := Option.bind_eq_some_iff.mp H
    obtain ⟨t338, A180, H⟩ := H
    replace H : (if t338 = true then ((impl_between.f a0_1 a1_1 a2_1).bind fun t339 => (some t339)) else (some false)) = some r := H
    have A18 := Aside0.mk A180
    clear A180
    by_cases c19 : t338 = true
    ·subst c19
     have H1 : ((impl_between.f a0_1 a1_1 a2_1).bind fun t339 => (some t339)) = some r := by rw [if_pos rfl] at H; exact H
     clear H
     have H := H1
     clear H1
     replace H := Option.bind_eq_some_iff.mp H
     obtain ⟨t339, A200, H⟩ := H
     replace H : (some t339) = some r := H
     have A20 := Aside0.mk A200
     clear A200
     obtain rfl := Option.some.inj H
     have hnb21 := NB333_334.out
     have hnc21 := NB334_333.out
     have hnb22 := NB333_335.out
     have hnc22 := NB335_333.out
     have hcz23_0 : wc.cell? ⟨gb333, 0, none⟩ = some (.int .i64 a0_0) := (blk_cell BK333.out 0).trans rfl
     have hcz23_1 : wc.cell? ⟨gb333, 1, none⟩ = some (.int .i64 a0_1) := (blk_cell BK333.out 1).trans rfl
     have hfz23_0 := blk_frozen BK333.out 0
     have hfz23_1 := blk_frozen BK333.out 1
     have hnb24 := NB334_335.out
     have hnc24 := NB335_334.out
     have hcz25_0 : wc.cell? ⟨gb334, 0, none⟩ = some (.int .i64 a1_0) := (blk_cell BK334.out 0).trans rfl
     have hcz25_1 : wc.cell? ⟨gb334, 1, none⟩ = some (.int .i64 a1_1) := (blk_cell BK334.out 1).trans rfl
     have hfz25_0 := blk_frozen BK334.out 0
     have hfz25_1 := blk_frozen BK334.out 1
     have hcz26_0 : wc.cell? ⟨gb335, 0, none⟩ = some (.int .i64 a2_0) := (blk_cell BK335.out 0).trans rfl
     have hcz26_1 : wc.cell? ⟨gb335, 1, none⟩ = some (.int .i64 a2_1) := (blk_cell BK335.out 1).trans rfl
     have hfz26_0 := blk_frozen BK335.out 0
     have hfz26_1 := blk_frozen BK335.out 1
     go_wp2_with (first | ((with_reducible refine gate_callee (f := 85) rfl ?_); refine goesL_ (some 28) rfl rfl Try.func85 (by kernel_rfl) rfl #[.int .i64 a0_0, .int .i64 a1_0, .int .i64 a2_0] rfl qq3 ?_; (with_reducible refine (impl_between.calls a0_0 a1_0 a2_0 true _ A18.out).mono ?_); rintro e w27 ⟨rfl, hb⟩; refine ⟨_, rfl, ?_⟩; have n0_ := Aside0.mk (bbl_ BK333.out hb); have n1_ := Aside0.mk (bbl_ BK334.out hb); have n2_ := Aside0.mk (bbl_ BK335.out hb); have n3_ := Aside0.mk (below_step (qq9 HB.out GE333.out GE334.out GE335.out) hb); clear BK333; clear BK334; clear BK335; clear HB; have BK333 := n0_; have BK334 := n1_; have BK335 := n2_; have HB := n3_; clear n0_ n1_ n2_ n3_; (try clear hb); (try clear hb2); (try clear hk); (try clear hi); have hcz28_0 : w27.cell? ⟨gb333, 0, none⟩ = some (.int .i64 a0_0) := (blk_cell BK333.out 0).trans rfl; have hcz28_1 : w27.cell? ⟨gb333, 1, none⟩ = some (.int .i64 a0_1) := (blk_cell BK333.out 1).trans rfl; have hfz28_0 := blk_frozen BK333.out 0; have hfz28_1 := blk_frozen BK333.out 1; have hcz29_0 : w27.cell? ⟨gb334, 0, none⟩ = some (.int .i64 a1_0) := (blk_cell BK334.out 0).trans rfl; have hcz29_1 : w27.cell? ⟨gb334, 1, none⟩ = some (.int .i64 a1_1) := (blk_cell BK334.out 1).trans rfl; have hfz29_0 := blk_frozen BK334.out 0; have hfz29_1 := blk_frozen BK334.out 1; have hcz30_0 : w27.cell? ⟨gb335, 0, none⟩ = some (.int .i64 a2_0) := (blk_cell BK335.out 0).trans rfl; have hcz30_1 : w27.cell? ⟨gb335, 1, none⟩ = some (.int .i64 a2_1) := (blk_cell BK335.out 1).trans rfl; have hfz30_0 := blk_frozen BK335.out 0; have hfz30_1 := blk_frozen BK335.out 1) | (go_at_call 85; (with_reducible refine (impl_between.calls a0_1 a1_1 a2_1 t339 _ A20.out).mono ?_); rintro e w31 ⟨rfl, hb⟩; have n0_ := Aside0.mk (bbl_ BK333.out hb); have n1_ := Aside0.mk (bbl_ BK334.out hb); have n2_ := Aside0.mk (bbl_ BK335.out hb); have n3_ := Aside0.mk (below_step (qq9 HB.out GE333.out GE334.out GE335.out) hb); clear BK333; clear BK334; clear BK335; clear HB; have BK333 := n0_; have BK334 := n1_; have BK335 := n2_; have HB := n3_; clear n0_ n1_ n2_ n3_; (try clear hb); (try clear hb2); (try clear hk); (try clear hi)))
     go_ret
     exact ⟨qq10, qq9 HB.out GE333.out GE334.out GE335.out⟩
    ·replace c19 := Bool.eq_false_iff.mpr c19
     subst c19
     have H1 : (some false) = some r := by rw [if_neg (show ¬ (false = true) by decide)] at H; exact H
     clear H
     have H := H1
     clear H1
     obtain rfl := Option.some.inj H
     have hnb32 := NB333_334.out
     have hnc32 := NB334_333.out
     have hnb33 := NB333_335.out
     have hnc33 := NB335_333.out
     have hcz34_0 : wc.cell? ⟨gb333, 0, none⟩ = some (.int .i64 a0_0) := (blk_cell BK333.out 0).trans rfl
     have hcz34_1 : wc.cell? ⟨gb333, 1, none⟩ = some (.int .i64 a0_1) := (blk_cell BK333.out 1).trans rfl
     have hfz34_0 := blk_frozen BK333.out 0
     have hfz34_1 := blk_frozen BK333.out 1
     have hnb35 := NB334_335.out
     have hnc35 := NB335_334.out
     have hcz36_0 : wc.cell? ⟨gb334, 0, none⟩ = some (.int .i64 a1_0) := (blk_cell BK334.out 0).trans rfl
     have hcz36_1 : wc.cell? ⟨gb334, 1, none⟩ = some (.int .i64 a1_1) := (blk_cell BK334.out 1).trans rfl
     have hfz36_0 := blk_frozen BK334.out 0
     have hfz36_1 := blk_frozen BK334.out 1
     have hcz37_0 : wc.cell? ⟨gb335, 0, none⟩ = some (.int .i64 a2_0) := (blk_cell BK335.out 0).trans rfl
     have hcz37_1 : wc.cell? ⟨gb335, 1, none⟩ = some (.int .i64 a2_1) := (blk_cell BK335.out 1).trans rfl
     have hfz37_0 := blk_frozen BK335.out 0
     have hfz37_1 := blk_frozen BK335.out 1
     go_wp2_with (first | ((with_reducible refine gate_callee (f := 85) rfl ?_); refine goesL_ (some 28) rfl rfl Try.func85 (by kernel_rfl) rfl #[.int .i64 a0_0, .int .i64 a1_0, .int .i64 a2_0] rfl qq3 ?_; (with_reducible refine (impl_between.calls a0_0 a1_0 a2_0 false _ A18.out).mono ?_); rintro e w38 ⟨rfl, hb⟩; refine ⟨_, rfl, ?_⟩; have n0_ := Aside0.mk (bbl_ BK333.out hb); have n1_ := Aside0.mk (bbl_ BK334.out hb); have n2_ := Aside0.mk (bbl_ BK335.out hb); have n3_ := Aside0.mk (below_step (qq9 HB.out GE333.out GE334.out GE335.out) hb); clear BK333; clear BK334; clear BK335; clear HB; have BK333 := n0_; have BK334 := n1_; have BK335 := n2_; have HB := n3_; clear n0_ n1_ n2_ n3_; (try clear hb); (try clear hb2); (try clear hk); (try clear hi)))
     go_ret
     exact ⟨qq10, qq9 HB.out GE333.out GE334.out GE335.out⟩

end Go.Proofs.Ytgdhgncdpmalcaa.Q
namespace Go.Proofs.Ytgdhgncdpmalcaa.Q
open Go.RowKit Go.Proofs.YtgdhgncdpmalcaaW.PrintWords Go.Proofs.YtgdhgncdpmalcaaW.PrintLast Go.Proofs.YtgdhgncdpmalcaaW.PrintMore
attribute [local go_sem] max2_int min2_int max_two min_two max_three min_three max_four min_four
set_option linter.unusedVariables false
set_option linter.unusedSimpArgs false

/-! ### spec_l2On: function 50 -/
def spec_l2On.f (a0_0 : Int) (a0_1 : Int) (a1_0 : Int) (a1_1 : Int) (a2_0 : Int) (a2_1 : Int) : Option (Bool) := (spec_l2Step.f a0_0 a0_1 a1_0 a1_1).bind fun bt346 => ((spec_l2Step.f a0_0 a0_1 a2_0 a2_1).bind fun bt348 => ((spec_l2Cross.f bt346.1 bt346.2 bt348.1 bt348.2).bind fun t350 => (if t350 = 0 then ((spec_l6In.f a2_0 (mn a0_0 a1_0) (mx a0_0 a1_0)).bind fun t351 => (if t351 = true then ((spec_l6In.f a2_1 (mn a0_1 a1_1) (mx a0_1 a1_1)).bind fun t352 => (some t352)) else (some false))) else (some false))))
def spec_l2On.T1 : Bool × List (List Nat × List Nat) := (true, [([], []), ([], []), ([0, 1], [0, 1]), ([], []), ([], []), ([3, 4, 2], [3, 4]), ([2, 5, 5], [2, 5]), ([6], [6])])
def spec_l2On.B1 : List Nat := [0, 0, 3, 0, 0, 31, 63, 127]
theorem spec_l2On.tab1 : rtab .any (opsOf Try.f50 1) = spec_l2On.T1 := by kernel_rfl
theorem spec_l2On.bits1 : waitsOk spec_l2On.T1.2 spec_l2On.B1 = true := by kernel_rfl
set_option maxHeartbeats 8000000 in
set_option maxRecDepth 100000 in
theorem spec_l2On.calls (a0_0 : Int) (a0_1 : Int) (a1_0 : Int) (a1_1 : Int) (a2_0 : Int) (a2_1 : Int) (r : Bool) (w : World) (h : spec_l2On.f a0_0 a0_1 a1_0 a1_1 a2_0 a2_1 = some r) :
  Calls Try.prog 50 #[.agg #[.int .i64 a0_0, .int .i64 a0_1], .agg #[.int .i64 a1_0, .int .i64 a1_1], .agg #[.int .i64 a2_0, .int .i64 a2_1]] w fun e w' => e = .returned (.bool r) ∧ Below w.heap.size w w' := by
 have hu32 := Try.underlying32
 have HB := Aside0.mk (Below.refl w.heap.size w)
 have H : ((spec_l2Step.f a0_0 a0_1 a1_0 a1_1).bind fun bt346 => ((spec_l2Step.f a0_0 a0_1 a2_0 a2_1).bind fun bt348 => ((spec_l2Cross.f bt346.1 bt346.2 bt348.1 bt348.2).bind fun t350 => (if t350 = 0 then ((spec_l6In.f a2_0 (mn a0_0 a1_0) (mx a0_0 a1_0)).bind fun t351 => (if t351 = true then ((spec_l6In.f a2_1 (mn a0_1 a1_1) (mx a0_1 a1_1)).bind fun t352 => (some t352)) else (some false))) else (some false))))) = some r := h
 clear h
 replace H := Option.bind_eq_some_iff.mp H
 obtain ⟨⟨t346, t347⟩, A40, H⟩ := H
 replace H : ((spec_l2Step.f a0_0 a0_1 a2_0 a2_1).bind fun bt348 => ((spec_l2Cross.f t346 t347 bt348.1 bt348.2).bind fun t350 => (if t350 = 0 then ((spec_l6In.f a2_0 (mn a0_0 a1_0) (mx a0_0 a1_0)).bind fun t351 => (if t351 = true then ((spec_l6In.f a2_1 (mn a0_1 a1_1) (mx a0_1 a1_1)).bind fun t352 => (some t352)) else (some false))) else (some false)))) = some r := H
 have A4 := Aside0.mk A40
 clear A40
 replace H := Option.bind_eq_some_iff.mp H
 obtain ⟨⟨t348, t349⟩, A50, H⟩ := H
 replace H : ((spec_l2Cross.f t346 t347 t348 t349).bind fun t350 => (if t350 = 0 then ((spec_l6In.f a2_0 (mn a0_0 a1_0) (mx a0_0 a1_0)).bind fun t351 => (if t351 = true then ((spec_l6In.f a2_1 (mn a0_1 a1_1) (mx a0_1 a1_1)).bind fun t352 => (some t352)) else (some false))) else (some false))) = some r := H
 have A5 := Aside0.mk A50
 clear A50
 replace H := Option.bind_eq_some_iff.mp H
 obtain ⟨t350, A60, H⟩ := H
 replace H : (if t350 = 0 then ((spec_l6In.f a2_0 (mn a0_0 a1_0) (mx a0_0 a1_0)).bind fun t351 => (if t351 = true then ((spec_l6In.f a2_1 (mn a0_1 a1_1) (mx a0_1 a1_1)).bind fun t352 => (some t352)) else (some false))) else (some false)) = some r := H
 have A6 := Aside0.mk A60
 clear A60
 by_cases c7 : t350 = 0
 ·rw [if_pos c7] at H
  have c7b0 : (t350 == 0) = true := beq_iff_eq.mpr c7
  have c7b1 : (t350 != 0) = false := bne_eq_false_iff_eq.mpr c7
  clear c7
  obtain ⟨ji8, hji8⟩ : ∃ j_ : Int, (mn a0_0 a1_0) = j_ := ⟨_, rfl⟩
  replace H : ((spec_l6In.f a2_0 (ji8) (mx a0_0 a1_0)).bind fun t351 => (if t351 = true then ((spec_l6In.f a2_1 (mn a0_1 a1_1) (mx a0_1 a1_1)).bind fun t352 => (some t352)) else (some false))) = some r := by first | (rw [hji8] at H; exact H) | (simp only [hji8] at H ⊢; exact H)
  (try rw [hji8] at A4)
  (try rw [hji8] at A5)
  (try rw [hji8] at A6)
  have hji8_ : (if a1_0 < a0_0 then a1_0 else a0_0) = ji8 := hji8
  obtain ⟨ji9, hji9⟩ : ∃ j_ : Int, (mx a0_0 a1_0) = j_ := ⟨_, rfl⟩
  replace H : ((spec_l6In.f a2_0 (ji8) (ji9)).bind fun t351 => (if t351 = true then ((spec_l6In.f a2_1 (mn a0_1 a1_1) (mx a0_1 a1_1)).bind fun t352 => (some t352)) else (some false))) = some r := by first | (rw [hji9] at H; exact H) | (simp only [hji9] at H ⊢; exact H)
  (try rw [hji9] at A4)
  (try rw [hji9] at A5)
  (try rw [hji9] at A6)
  have hji9_ : (if a0_0 < a1_0 then a1_0 else a0_0) = ji9 := hji9
  replace H := Option.bind_eq_some_iff.mp H
  obtain ⟨t351, A100, H⟩ := H
  replace H : (if t351 = true then ((spec_l6In.f a2_1 (mn a0_1 a1_1) (mx a0_1 a1_1)).bind fun t352 => (some t352)) else (some false)) = some r := H
  have A10 := Aside0.mk A100
  clear A100
  by_cases c11 : t351 = true
  ·subst c11
   have H1 : ((spec_l6In.f a2_1 (mn a0_1 a1_1) (mx a0_1 a1_1)).bind fun t352 => (some t352)) = some r := by rw [if_pos rfl] at H; exact H
   clear H
   have H := H1
   clear H1
   obtain ⟨ji12, hji12⟩ : ∃ j_ : Int, (mn a0_1 a1_1) = j_ := ⟨_, rfl⟩
   replace H : ((spec_l6In.f a2_1 (ji12) (mx a0_1 a1_1)).bind fun t352 => (some t352)) = some r := by first | (rw [hji12] at H; exact H) | (simp only [hji12] at H ⊢; exact H)
   (try rw [hji12] at A4)
   (try rw [hji12] at A5)
   (try rw [hji12] at A6)
   (try rw [hji12] at A10)
   have hji12_ : (if a1_1 < a0_1 then a1_1 else a0_1) = ji12 := hji12
   obtain ⟨ji13, hji13⟩ : ∃ j_ : Int, (mx a0_1 a1_1) = j_ := ⟨_, rfl⟩
   replace H : ((spec_l6In.f a2_1 (ji12) (ji13)).bind fun t352 => (some t352)) = some r := by first | (rw [hji13] at H; exact H) | (simp only [hji13] at H ⊢; exact H)
   (try rw [hji13] at A4)
   (try rw [hji13] at A5)
   (try rw [hji13] at A6)
   (try rw [hji13] at A10)
   have hji13_ : (if a0_1 < a1_1 then a1_1 else a0_1) = ji13 := hji13
   replace H := Option.bind_eq_some_iff.mp H
   obtain ⟨t352, A140, H⟩ := H
   replace H : (some t352) = some r := H
   have A14 := Aside0.mk A140
   clear A140
   obtain rfl := Option.some.inj H
   go_enter Try.func50, Try.ntmps50
   try go_wp2_with (first | ((with_reducible refine gate_dst (N := 3) rfl ?_); (try (refine gate_guard (by rfl) ?_; dsimp only)); refine box_event ?hg (N := 3) ?hd (cs := #[.int .i64 a0_0, .int .i64 a0_1]) (t := 32) ?hr ?_; (case hd => rfl); (case hg => rfl); (case hr => exact qq22); intro gb343 hg w15 hbox hb; have n0_ := Aside0.mk (below_step qq1 hb); have n1_ := Aside0.mk (hbox); have n2_ := Aside0.mk ((qq35 : w.heap.size ≤ gb343)); have n3_ := Aside0.mk ((qq35 : w.heap.size ≤ gb343)); clear HB; have HB := n0_; have BK343 := n1_; have GW343 := n2_; have GE343 := n3_; clear n0_ n1_ n2_ n3_; clear hb hbox hg) | ((with_reducible refine gate_dst (N := 4) rfl ?_); (try (refine gate_guard (by rfl) ?_; dsimp only)); refine box_event ?hg (N := 4) ?hd (cs := #[.int .i64 a1_0, .int .i64 a1_1]) (t := 32) ?hr ?_; (case hd => rfl); (case hg => rfl); (case hr => exact qq22); intro gb344 hg w16 hbox hb; have n0_ := Aside0.mk (bbl_ BK343.out hb); have n1_ := Aside0.mk (below_step (qq7 HB.out GE343.out) hb); have n2_ := Aside0.mk (hbox); have n3_ := Aside0.mk ((qq43 HB.out GE343.out : w.heap.size ≤ gb344)); have n4_ := Aside0.mk ((qq43 HB.out GE343.out : w.heap.size ≤ gb344)); have n5_ := Aside0.mk ((qq31 BK343.out : gb343 ≠ gb344)); have n6_ := Aside0.mk ((qq32 BK343.out : gb344 ≠ gb343)); clear BK343; clear HB; have BK343 := n0_; have HB := n1_; have BK344 := n2_; have GW344 := n3_; have GE344 := n4_; have NB343_344 := n5_; have NB344_343 := n6_; clear n0_ n1_ n2_ n3_ n4_ n5_ n6_; clear hb hbox hg) | ((with_reducible refine gate_dst (N := 5) rfl ?_); (try (refine gate_guard (by rfl) ?_; dsimp only)); refine box_event ?hg (N := 5) ?hd (cs := #[.int .i64 a2_0, .int .i64 a2_1]) (t := 32) ?hr ?_; (case hd => rfl); (case hg => rfl); (case hr => exact qq22); intro gb345 hg w17 hbox hb; have n0_ := Aside0.mk (bbl_ BK343.out hb); have n1_ := Aside0.mk (bbl_ BK344.out hb); have n2_ := Aside0.mk (below_step (qq13 HB.out GE343.out GE344.out) hb); have n3_ := Aside0.mk (hbox); have n4_ := Aside0.mk ((qq54 HB.out GE343.out GE344.out : w.heap.size ≤ gb345)); have n5_ := Aside0.mk ((qq54 HB.out GE343.out GE344.out : w.heap.size ≤ gb345)); have n6_ := Aside0.mk ((qq31 BK343.out : gb343 ≠ gb345)); have n7_ := Aside0.mk ((qq32 BK343.out : gb345 ≠ gb343)); have n8_ := Aside0.mk ((qq31 BK344.out : gb344 ≠ gb345)); have n9_ := Aside0.mk ((qq32 BK344.out : gb345 ≠ gb344)); clear BK343; clear BK344; clear HB; have BK343 := n0_; have BK344 := n1_; have HB := n2_; have BK345 := n3_; have GW345 := n4_; have GE345 := n5_; have NB343_345 := n6_; have NB345_343 := n7_; have NB344_345 := n8_; have NB345_344 := n9_; clear n0_ n1_ n2_ n3_ n4_ n5_ n6_ n7_ n8_ n9_; clear hb hbox hg))
   have n0_ := Aside0.mk (blk_drew BK343.out)
   have n1_ := Aside0.mk (blk_drew BK344.out)
   have n2_ := Aside0.mk (blk_drew BK345.out)
   have n3_ := Aside0.mk (below_drew1 HB.out)
   clear BK343
   clear BK344
   clear BK345
   clear HB
   have BK343 := n0_
   have BK344 := n1_
   have BK345 := n2_
   have HB := n3_
   clear n0_ n1_ n2_ n3_
   refine start_ (n := 8) (S := fun w' => w'.cell? ⟨gb343, 0, none⟩ = some (.int .i64 a0_0) ∧ w'.cell? ⟨gb343, 1, none⟩ = some (.int .i64 a0_1) ∧ w'.cell? ⟨gb344, 0, none⟩ = some (.int .i64 a1_0) ∧ w'.cell? ⟨gb344, 1, none⟩ = some (.int .i64 a1_1) ∧ w'.cell? ⟨gb345, 0, none⟩ = some (.int .i64 a2_0) ∧ w'.cell? ⟨gb345, 1, none⟩ = some (.int .i64 a2_1)) (ds := []) #[false, false, false, false, false, false, false, false] (by kernel_rfl) rfl rfl ⟨(blk_cell BK343.out 0).trans rfl, (blk_cell BK343.out 1).trans rfl, (blk_cell BK344.out 0).trans rfl, (blk_cell BK344.out 1).trans rfl, (blk_cell BK345.out 0).trans rfl, (blk_cell BK345.out 1).trans rfl⟩ (fun hHeld => ?_); refine with_tabW spec_l2On.tab1 spec_l2On.bits1 (fun HT_ HW_ => ?_)
   generalize w17.drew = w18 at BK343 BK344 BK345 HB hHeld ⊢
   refine take_ (i := 0) (N := some 7) (v := ?_) (a' := ?_) #[true, false, false, false, false, false, false, false] rfl rfl (take_ofW HT_.out HW_.out (by kernel_rfl)) (fun _ _ _ h => h) (Or.inl ⟨by rfl, ?_⟩) hHeld ?_ ?_
   rotate_left
   ·rintro w' ⟨s0, s1, s2, s3, s4, s5⟩
    go_simp
    with_reducible rfl
   rotate_left
   ·simp only [Act.put, List.setIfInBounds_toArray, List.set_cons_zero, List.set_cons_succ, i64_w, i32_w]
    rfl
   refine take_ (i := 1) (N := some 8) (v := ?_) (a' := ?_) #[true, true, false, false, false, false, false, false] rfl rfl (take_ofW HT_.out HW_.out (by kernel_rfl)) (fun _ _ _ h => h) (Or.inl ⟨by rfl, ?_⟩) hHeld ?_ ?_
   rotate_left
   ·rintro w' ⟨s0, s1, s2, s3, s4, s5⟩
    go_simp
    with_reducible rfl
   rotate_left
   ·simp only [Act.put, List.setIfInBounds_toArray, List.set_cons_zero, List.set_cons_succ, i64_w, i32_w]
    rfl
   refine take_ (i := 3) (N := some 10) (v := ?_) (a' := ?_) #[true, true, false, true, false, false, false, false] rfl rfl (take_ofW HT_.out HW_.out (by kernel_rfl)) (fun _ _ _ h => h) (Or.inl ⟨by rfl, ?_⟩) hHeld ?_ ?_
   rotate_left
   ·rintro w' ⟨s0, s1, s2, s3, s4, s5⟩
    go_simp
    with_reducible rfl
   rotate_left
   ·simp only [Act.put, List.setIfInBounds_toArray, List.set_cons_zero, List.set_cons_succ, i64_w, i32_w]
    rfl
   refine take_ (i := 4) (N := some 11) (v := ?_) (a' := ?_) #[true, true, false, true, true, false, false, false] rfl rfl (take_ofW HT_.out HW_.out (by kernel_rfl)) (fun _ _ _ h => h) (Or.inl ⟨by rfl, ?_⟩) hHeld ?_ ?_
   rotate_left
   ·rintro w' ⟨s0, s1, s2, s3, s4, s5⟩
    go_simp
    with_reducible rfl
   rotate_left
   ·simp only [Act.put, List.setIfInBounds_toArray, List.set_cons_zero, List.set_cons_succ, i64_w, i32_w]
    rfl
   refine one_ (i := 2) (N := some 9) #[true, true, true, true, true, false, false, false] rfl rfl (one_of HT_.out (by kernel_rfl)) (by decide) (fun K hK => ?_)
   refine goes_ Try.func77 (by kernel_rfl) rfl #[.agg #[.int .i64 a0_0, .int .i64 a0_1], .agg #[.int .i64 a1_0, .int .i64 a1_1]] (by rfl) rfl rfl qq3 ?_
   with_reducible refine (spec_l2Step.calls a0_0 a0_1 a1_0 a1_1 t346 t347 _ A4.out).mono ?_
   rintro e w19 ⟨rfl, hb⟩
   refine ⟨_, rfl, ?_⟩
   have n0_ := Aside0.mk (bbl_ BK343.out hb)
   have n1_ := Aside0.mk (bbl_ BK344.out hb)
   have n2_ := Aside0.mk (bbl_ BK345.out hb)
   have n3_ := Aside0.mk (below_step (qq9 HB.out GE343.out GE344.out GE345.out) hb)
   clear BK343
   clear BK344
   clear BK345
   clear HB
   have BK343 := n0_
   have BK344 := n1_
   have BK345 := n2_
   have HB := n3_
   clear n0_ n1_ n2_ n3_
   (try clear hb)
   (try clear hb2)
   (try clear hk)
   (try clear hi)
   refine hK.out _ _ ⟨(blk_cell BK343.out 0).trans rfl, (blk_cell BK343.out 1).trans rfl, (blk_cell BK344.out 0).trans rfl, (blk_cell BK344.out 1).trans rfl, (blk_cell BK345.out 0).trans rfl, (blk_cell BK345.out 1).trans rfl⟩ (fun hHeld => ?_)
   clear hK K
   refine norm_ (a' := ?_) ?_ ?_
   rotate_left
   ·show Act.put _ (some 9) _ = _
    simp only [Act.put, List.setIfInBounds_toArray, List.set_cons_zero, List.set_cons_succ, i64_w, i32_w]
    rfl
   refine one_ (i := 5) (N := some 12) #[true, true, true, true, true, true, false, false] rfl rfl (one_of HT_.out (by kernel_rfl)) (by decide) (fun K hK => ?_)
   refine goes_ Try.func77 (by kernel_rfl) rfl #[.agg #[.int .i64 a0_0, .int .i64 a0_1], .agg #[.int .i64 a2_0, .int .i64 a2_1]] (by rfl) rfl rfl qq3 ?_
   with_reducible refine (spec_l2Step.calls a0_0 a0_1 a2_0 a2_1 t348 t349 _ A5.out).mono ?_
   rintro e w20 ⟨rfl, hb⟩
   refine ⟨_, rfl, ?_⟩
   have n0_ := Aside0.mk (bbl_ BK343.out hb)
   have n1_ := Aside0.mk (bbl_ BK344.out hb)
   have n2_ := Aside0.mk (bbl_ BK345.out hb)
   have n3_ := Aside0.mk (below_step (qq9 HB.out GE343.out GE344.out GE345.out) hb)
   clear BK343
   clear BK344
   clear BK345
   clear HB
   have BK343 := n0_
   have BK344 := n1_
   have BK345 := n2_
   have HB := n3_
   clear n0_ n1_ n2_ n3_
   (try clear hb)
   (try clear hb2)
   (try clear hk)
   (try clear hi)
   refine hK.out _ _ ⟨(blk_cell BK343.out 0).trans rfl, (blk_cell BK343.out 1).trans rfl, (blk_cell BK344.out 0).trans rfl, (blk_cell BK344.out 1).trans rfl, (blk_cell BK345.out 0).trans rfl, (blk_cell BK345.out 1).trans rfl⟩ (fun hHeld => ?_)
   clear hK K
   refine norm_ (a' := ?_) ?_ ?_
   rotate_left
   ·show Act.put _ (some 12) _ = _
    simp only [Act.put, List.setIfInBounds_toArray, List.set_cons_zero, List.set_cons_succ, i64_w, i32_w]
    rfl
   refine one_ (i := 6) (N := some 13) #[true, true, true, true, true, true, true, false] rfl rfl (one_of HT_.out (by kernel_rfl)) (by decide) (fun K hK => ?_)
   refine goes_ Try.func75 (by kernel_rfl) rfl #[.agg #[.int .i64 t346, .int .i64 t347], .agg #[.int .i64 t348, .int .i64 t349]] (by rfl) rfl rfl qq3 ?_
   with_reducible refine (spec_l2Cross.calls t346 t347 t348 t349 t350 _ A6.out).mono ?_
   rintro e w21 ⟨rfl, hb⟩
   refine ⟨_, rfl, ?_⟩
   have n0_ := Aside0.mk (bbl_ BK343.out hb)
   have n1_ := Aside0.mk (bbl_ BK344.out hb)
   have n2_ := Aside0.mk (bbl_ BK345.out hb)
   have n3_ := Aside0.mk (below_step (qq9 HB.out GE343.out GE344.out GE345.out) hb)
   clear BK343
   clear BK344
   clear BK345
   clear HB
   have BK343 := n0_
   have BK344 := n1_
   have BK345 := n2_
   have HB := n3_
   clear n0_ n1_ n2_ n3_
   (try clear hb)
   (try clear hb2)
   (try clear hk)
   (try clear hi)
   refine hK.out _ _ ⟨(blk_cell BK343.out 0).trans rfl, (blk_cell BK343.out 1).trans rfl, (blk_cell BK344.out 0).trans rfl, (blk_cell BK344.out 1).trans rfl, (blk_cell BK345.out 0).trans rfl, (blk_cell BK345.out 1).trans rfl⟩ (fun hHeld => ?_)
   clear hK K
   refine norm_ (a' := ?_) ?_ ?_
   rotate_left
   ·show Act.put _ (some 13) _ = _
    simp only [Act.put, List.setIfInBounds_toArray, List.set_cons_zero, List.set_cons_succ, i64_w, i32_w]
    rfl
   refine pure_ (i := 7) (N := some 14) #[true, true, true, true, true, true, true, true] rfl rfl (any_of HT_.out (by kernel_rfl)) (fun _ _ _ h => h) (Or.inl ⟨by rfl, pA_⟩) pB_ ?_
   refine done_ (done_of HT_.out (by kernel_rfl)) ?_
   have hnb22 := NB345_343.out
   have hnc22 := NB343_345.out
   have hnb23 := NB345_344.out
   have hnc23 := NB344_345.out
   have hcz24_0 : w21.cell? ⟨gb345, 0, none⟩ = some (.int .i64 a2_0) := (blk_cell BK345.out 0).trans rfl
   have hcz24_1 : w21.cell? ⟨gb345, 1, none⟩ = some (.int .i64 a2_1) := (blk_cell BK345.out 1).trans rfl
   have hfz24_0 := blk_frozen BK345.out 0
   have hfz24_1 := blk_frozen BK345.out 1
   have hnb25 := NB343_344.out
   have hnc25 := NB344_343.out
   have hcz26_0 : w21.cell? ⟨gb343, 0, none⟩ = some (.int .i64 a0_0) := (blk_cell BK343.out 0).trans rfl
   have hcz26_1 : w21.cell? ⟨gb343, 1, none⟩ = some (.int .i64 a0_1) := (blk_cell BK343.out 1).trans rfl
   have hfz26_0 := blk_frozen BK343.out 0
   have hfz26_1 := blk_frozen BK343.out 1
   have hcz27_0 : w21.cell? ⟨gb344, 0, none⟩ = some (.int .i64 a1_0) := (blk_cell BK344.out 0).trans rfl
   have hcz27_1 : w21.cell? ⟨gb344, 1, none⟩ = some (.int .i64 a1_1) := (blk_cell BK344.out 1).trans rfl
   have hfz27_0 := blk_frozen BK344.out 0
   have hfz27_1 := blk_frozen BK344.out 1
   try go_wp2_with (first | ((with_reducible refine gate_callee (f := 67) rfl ?_); refine goesL_ (some 27) rfl rfl Try.func67 (by kernel_rfl) rfl #[.int .i64 a2_0, .int .i64 ji8, .int .i64 ji9] rfl qq71 ?_; (with_reducible refine (spec_l6In.calls a2_0 ji8 ji9 true _ A10.out).mono ?_); rintro e w' ⟨rfl, ⟨nd, rfl⟩⟩; refine ⟨_, rfl, ?_⟩) | (go_at_call 67; (with_reducible refine (spec_l6In.calls a2_1 ji12 ji13 t352 _ A14.out).mono ?_); rintro e w' ⟨rfl, ⟨nd, rfl⟩⟩))
   go_ret
   exact ⟨by first | rfl | (simp [errW_none, errW_some] <;> rfl) | (simp only [← hji8, ← hji9, ← hji12, ← hji13]; first | rfl | (simp [errW_none, errW_some] <;> rfl)) | (simp [*, errW_none, errW_some] <;> rfl), qq9 HB.out GE343.out GE344.out GE345.out⟩
  ·replace c11 := Bool.eq_false_iff.mpr c11
   subst c11
   have H1 : (some false) = some r := by rw [if_neg (show ¬ (false = true) by decide)] at H; exact H
   clear H
   have H := H1
   clear H1
   obtain rfl := Option.some.inj H
   go_enter Try.func50, Try.ntmps50
   try go_wp2_with (first | ((with_reducible refine gate_dst (N := 3) rfl ?_); (try (refine gate_guard (by rfl) ?_; dsimp only)); refine box_event ?hg (N := 3) ?hd (cs := #[.int .i64 a0_0, .int .i64 a0_1]) (t := 32) ?hr ?_; (case hd => rfl); (case hg => rfl); (case hr => exact qq22); intro gb343 hg w28 hbox hb; have n0_ := Aside0.mk (below_step qq1 hb); have n1_ := Aside0.mk (hbox); have n2_ := Aside0.mk ((qq35 : w.heap.size ≤ gb343)); have n3_ := Aside0.mk ((qq35 : w.heap.size ≤ gb343)); clear HB; have HB := n0_; have BK343 := n1_; have GW343 := n2_; have GE343 := n3_; clear n0_ n1_ n2_ n3_; clear hb hbox hg) | ((with_reducible refine gate_dst (N := 4) rfl ?_); (try (refine gate_guard (by rfl) ?_; dsimp only)); refine box_event ?hg (N := 4) ?hd (cs := #[.int .i64 a1_0, .int .i64 a1_1]) (t := 32) ?hr ?_; (case hd => rfl); (case hg => rfl); (case hr => exact qq22); intro gb344 hg w29 hbox hb; have n0_ := Aside0.mk (bbl_ BK343.out hb); have n1_ := Aside0.mk (below_step (qq7 HB.out GE343.out) hb); have n2_ := Aside0.mk (hbox); have n3_ := Aside0.mk ((qq43 HB.out GE343.out : w.heap.size ≤ gb344)); have n4_ := Aside0.mk ((qq43 HB.out GE343.out : w.heap.size ≤ gb344)); have n5_ := Aside0.mk ((qq31 BK343.out : gb343 ≠ gb344)); have n6_ := Aside0.mk ((qq32 BK343.out : gb344 ≠ gb343)); clear BK343; clear HB; have BK343 := n0_; have HB := n1_; have BK344 := n2_; have GW344 := n3_; have GE344 := n4_; have NB343_344 := n5_; have NB344_343 := n6_; clear n0_ n1_ n2_ n3_ n4_ n5_ n6_; clear hb hbox hg) | ((with_reducible refine gate_dst (N := 5) rfl ?_); (try (refine gate_guard (by rfl) ?_; dsimp only)); refine box_event ?hg (N := 5) ?hd (cs := #[.int .i64 a2_0, .int .i64 a2_1]) (t := 32) ?hr ?_; (case hd => rfl); (case hg => rfl); (case hr => exact qq22); intro gb345 hg w30 hbox hb; have n0_ := Aside0.mk (bbl_ BK343.out hb); have n1_ := Aside0.mk (bbl_ BK344.out hb); have n2_ := Aside0.mk (below_step (qq13 HB.out GE343.out GE344.out) hb); have n3_ := Aside0.mk (hbox); have n4_ := Aside0.mk ((qq54 HB.out GE343.out GE344.out : w.heap.size ≤ gb345)); have n5_ := Aside0.mk ((qq54 HB.out GE343.out GE344.out : w.heap.size ≤ gb345)); have n6_ := Aside0.mk ((qq31 BK343.out : gb343 ≠ gb345)); have n7_ := Aside0.mk ((qq32 BK343.out : gb345 ≠ gb343)); have n8_ := Aside0.mk ((qq31 BK344.out : gb344 ≠ gb345)); have n9_ := Aside0.mk ((qq32 BK344.out : gb345 ≠ gb344)); clear BK343; clear BK344; clear HB; have BK343 := n0_; have BK344 := n1_; have HB := n2_; have BK345 := n3_; have GW345 := n4_; have GE345 := n5_; have NB343_345 := n6_; have NB345_343 := n7_; have NB344_345 := n8_; have NB345_344 := n9_; clear n0_ n1_ n2_ n3_ n4_ n5_ n6_ n7_ n8_ n9_; clear hb hbox hg))
   have n0_ := Aside0.mk (blk_drew BK343.out)
   have n1_ := Aside0.mk (blk_drew BK344.out)
   have n2_ := Aside0.mk (blk_drew BK345.out)
   have n3_ := Aside0.mk (below_drew1 HB.out)
   clear BK343
   clear BK344
   clear BK345
   clear HB
   have BK343 := n0_
   have BK344 := n1_
   have BK345 := n2_
   have HB := n3_
   clear n0_ n1_ n2_ n3_
   refine start_ (n := 8) (S := fun w' => w'.cell? ⟨gb343, 0, none⟩ = some (.int .i64 a0_0) ∧ w'.cell? ⟨gb343, 1, none⟩ = some (.int .i64 a0_1) ∧ w'.cell? ⟨gb344, 0, none⟩ = some (.int .i64 a1_0) ∧ w'.cell? ⟨gb344, 1, none⟩ = some (.int .i64 a1_1) ∧ w'.cell? ⟨gb345, 0, none⟩ = some (.int .i64 a2_0) ∧ w'.cell? ⟨gb345, 1, none⟩ = some (.int .i64 a2_1)) (ds := []) #[false, false, false, false, false, false, false, false] (by kernel_rfl) rfl rfl ⟨(blk_cell BK343.out 0).trans rfl, (blk_cell BK343.out 1).trans rfl, (blk_cell BK344.out 0).trans rfl, (blk_cell BK344.out 1).trans rfl, (blk_cell BK345.out 0).trans rfl, (blk_cell BK345.out 1).trans rfl⟩ (fun hHeld => ?_); refine with_tabW spec_l2On.tab1 spec_l2On.bits1 (fun HT_ HW_ => ?_)
   generalize w30.drew = w31 at BK343 BK344 BK345 HB hHeld ⊢
   refine take_ (i := 0) (N := some 7) (v := ?_) (a' := ?_) #[true, false, false, false, false, false, false, false] rfl rfl (take_ofW HT_.out HW_.out (by kernel_rfl)) (fun _ _ _ h => h) (Or.inl ⟨by rfl, ?_⟩) hHeld ?_ ?_
   rotate_left
   ·rintro w' ⟨s0, s1, s2, s3, s4, s5⟩
    go_simp
    with_reducible rfl
   rotate_left
   ·simp only [Act.put, List.setIfInBounds_toArray, List.set_cons_zero, List.set_cons_succ, i64_w, i32_w]
    rfl
   refine take_ (i := 1) (N := some 8) (v := ?_) (a' := ?_) #[true, true, false, false, false, false, false, false] rfl rfl (take_ofW HT_.out HW_.out (by kernel_rfl)) (fun _ _ _ h => h) (Or.inl ⟨by rfl, ?_⟩) hHeld ?_ ?_
   rotate_left
   ·rintro w' ⟨s0, s1, s2, s3, s4, s5⟩
    go_simp
    with_reducible rfl
   rotate_left
   ·simp only [Act.put, List.setIfInBounds_toArray, List.set_cons_zero, List.set_cons_succ, i64_w, i32_w]
    rfl
   refine take_ (i := 3) (N := some 10) (v := ?_) (a' := ?_) #[true, true, false, true, false, false, false, false] rfl rfl (take_ofW HT_.out HW_.out (by kernel_rfl)) (fun _ _ _ h => h) (Or.inl ⟨by rfl, ?_⟩) hHeld ?_ ?_
   rotate_left
   ·rintro w' ⟨s0, s1, s2, s3, s4, s5⟩
    go_simp
    with_reducible rfl
   rotate_left
   ·simp only [Act.put, List.setIfInBounds_toArray, List.set_cons_zero, List.set_cons_succ, i64_w, i32_w]
    rfl
   refine take_ (i := 4) (N := some 11) (v := ?_) (a' := ?_) #[true, true, false, true, true, false, false, false] rfl rfl (take_ofW HT_.out HW_.out (by kernel_rfl)) (fun _ _ _ h => h) (Or.inl ⟨by rfl, ?_⟩) hHeld ?_ ?_
   rotate_left
   ·rintro w' ⟨s0, s1, s2, s3, s4, s5⟩
    go_simp
    with_reducible rfl
   rotate_left
   ·simp only [Act.put, List.setIfInBounds_toArray, List.set_cons_zero, List.set_cons_succ, i64_w, i32_w]
    rfl
   refine one_ (i := 2) (N := some 9) #[true, true, true, true, true, false, false, false] rfl rfl (one_of HT_.out (by kernel_rfl)) (by decide) (fun K hK => ?_)
   refine goes_ Try.func77 (by kernel_rfl) rfl #[.agg #[.int .i64 a0_0, .int .i64 a0_1], .agg #[.int .i64 a1_0, .int .i64 a1_1]] (by rfl) rfl rfl qq3 ?_
   with_reducible refine (spec_l2Step.calls a0_0 a0_1 a1_0 a1_1 t346 t347 _ A4.out).mono ?_
   rintro e w32 ⟨rfl, hb⟩
   refine ⟨_, rfl, ?_⟩
   have n0_ := Aside0.mk (bbl_ BK343.out hb)
   have n1_ := Aside0.mk (bbl_ BK344.out hb)
   have n2_ := Aside0.mk (bbl_ BK345.out hb)
   have n3_ := Aside0.mk (below_step (qq9 HB.out GE343.out GE344.out GE345.out) hb)
   clear BK343
   clear BK344
   clear BK345
   clear HB
   have BK343 := n0_
   have BK344 := n1_
   have BK345 := n2_
   have HB := n3_
   clear n0_ n1_ n2_ n3_
   (try clear hb)
   (try clear hb2)
   (try clear hk)
   (try clear hi)
   refine hK.out _ _ ⟨(blk_cell BK343.out 0).trans rfl, (blk_cell BK343.out 1).trans rfl, (blk_cell BK344.out 0).trans rfl, (blk_cell BK344.out 1).trans rfl, (blk_cell BK345.out 0).trans rfl, (blk_cell BK345.out 1).trans rfl⟩ (fun hHeld => ?_)
   clear hK K
   refine norm_ (a' := ?_) ?_ ?_
   rotate_left
   ·show Act.put _ (some 9) _ = _
    simp only [Act.put, List.setIfInBounds_toArray, List.set_cons_zero, List.set_cons_succ, i64_w, i32_w]
    rfl
   refine one_ (i := 5) (N := some 12) #[true, true, true, true, true, true, false, false] rfl rfl (one_of HT_.out (by kernel_rfl)) (by decide) (fun K hK => ?_)
   refine goes_ Try.func77 (by kernel_rfl) rfl #[.agg #[.int .i64 a0_0, .int .i64 a0_1], .agg #[.int .i64 a2_0, .int .i64 a2_1]] (by rfl) rfl rfl qq3 ?_
   with_reducible refine (spec_l2Step.calls a0_0 a0_1 a2_0 a2_1 t348 t349 _ A5.out).mono ?_
   rintro e w33 ⟨rfl, hb⟩
   refine ⟨_, rfl, ?_⟩
   have n0_ := Aside0.mk (bbl_ BK343.out hb)
   have n1_ := Aside0.mk (bbl_ BK344.out hb)
   have n2_ := Aside0.mk (bbl_ BK345.out hb)
   have n3_ := Aside0.mk (below_step (qq9 HB.out GE343.out GE344.out GE345.out) hb)
   clear BK343
   clear BK344
   clear BK345
   clear HB
   have BK343 := n0_
   have BK344 := n1_
   have BK345 := n2_
   have HB := n3_
   clear n0_ n1_ n2_ n3_
   (try clear hb)
   (try clear hb2)
   (try clear hk)
   (try clear hi)
   refine hK.out _ _ ⟨(blk_cell BK343.out 0).trans rfl, (blk_cell BK343.out 1).trans rfl, (blk_cell BK344.out 0).trans rfl, (blk_cell BK344.out 1).trans rfl, (blk_cell BK345.out 0).trans rfl, (blk_cell BK345.out 1).trans rfl⟩ (fun hHeld => ?_)
   clear hK K
   refine norm_ (a' := ?_) ?_ ?_
   rotate_left
   ·show Act.put _ (some 12) _ = _
    simp only [Act.put, List.setIfInBounds_toArray, List.set_cons_zero, List.set_cons_succ, i64_w, i32_w]
    rfl
   refine one_ (i := 6) (N := some 13) #[true, true, true, true, true, true, true, false] rfl rfl (one_of HT_.out (by kernel_rfl)) (by decide) (fun K hK => ?_)
   refine goes_ Try.func75 (by kernel_rfl) rfl #[.agg #[.int .i64 t346, .int .i64 t347], .agg #[.int .i64 t348, .int .i64 t349]] (by rfl) rfl rfl qq3 ?_
   with_reducible refine (spec_l2Cross.calls t346 t347 t348 t349 t350 _ A6.out).mono ?_
   rintro e w34 ⟨rfl, hb⟩
   refine ⟨_, rfl, ?_⟩
   have n0_ := Aside0.mk (bbl_ BK343.out hb)
   have n1_ := Aside0.mk (bbl_ BK344.out hb)
   have n2_ := Aside0.mk (bbl_ BK345.out hb)
   have n3_ := Aside0.mk (below_step (qq9 HB.out GE343.out GE344.out GE345.out) hb)
   clear BK343
   clear BK344
   clear BK345
   clear HB
   have BK343 := n0_
   have BK344 := n1_
   have BK345 := n2_
   have HB := n3_
   clear n0_ n1_ n2_ n3_
   (try clear hb)
   (try clear hb2)
   (try clear hk)
   (try clear hi)
   refine hK.out _ _ ⟨(blk_cell BK343.out 0).trans rfl, (blk_cell BK343.out 1).trans rfl, (blk_cell BK344.out 0).trans rfl, (blk_cell BK344.out 1).trans rfl, (blk_cell BK345.out 0).trans rfl, (blk_cell BK345.out 1).trans rfl⟩ (fun hHeld => ?_)
   clear hK K
   refine norm_ (a' := ?_) ?_ ?_
   rotate_left
   ·show Act.put _ (some 13) _ = _
    simp only [Act.put, List.setIfInBounds_toArray, List.set_cons_zero, List.set_cons_succ, i64_w, i32_w]
    rfl
   refine pure_ (i := 7) (N := some 14) #[true, true, true, true, true, true, true, true] rfl rfl (any_of HT_.out (by kernel_rfl)) (fun _ _ _ h => h) (Or.inl ⟨by rfl, pA_⟩) pB_ ?_
   refine done_ (done_of HT_.out (by kernel_rfl)) ?_
   have hnb35 := NB345_343.out
   have hnc35 := NB343_345.out
   have hnb36 := NB345_344.out
   have hnc36 := NB344_345.out
   have hcz37_0 : w34.cell? ⟨gb345, 0, none⟩ = some (.int .i64 a2_0) := (blk_cell BK345.out 0).trans rfl
   have hcz37_1 : w34.cell? ⟨gb345, 1, none⟩ = some (.int .i64 a2_1) := (blk_cell BK345.out 1).trans rfl
   have hfz37_0 := blk_frozen BK345.out 0
   have hfz37_1 := blk_frozen BK345.out 1
   have hnb38 := NB343_344.out
   have hnc38 := NB344_343.out
   have hcz39_0 : w34.cell? ⟨gb343, 0, none⟩ = some (.int .i64 a0_0) := (blk_cell BK343.out 0).trans rfl
   have hcz39_1 : w34.cell? ⟨gb343, 1, none⟩ = some (.int .i64 a0_1) := (blk_cell BK343.out 1).trans rfl
   have hfz39_0 := blk_frozen BK343.out 0
   have hfz39_1 := blk_frozen BK343.out 1
   have hcz40_0 : w34.cell? ⟨gb344, 0, none⟩ = some (.int .i64 a1_0) := (blk_cell BK344.out 0).trans rfl
   have hcz40_1 : w34.cell? ⟨gb344, 1, none⟩ = some (.int .i64 a1_1) := (blk_cell BK344.out 1).trans rfl
   have hfz40_0 := blk_frozen BK344.out 0
   have hfz40_1 := blk_frozen BK344.out 1
   try go_wp2_with (first | ((with_reducible refine gate_callee (f := 67) rfl ?_); refine goesL_ (some 27) rfl rfl Try.func67 (by kernel_rfl) rfl #[.int .i64 a2_0, .int .i64 ji8, .int .i64 ji9] rfl qq71 ?_; (with_reducible refine (spec_l6In.calls a2_0 ji8 ji9 false _ A10.out).mono ?_); rintro e w' ⟨rfl, ⟨nd, rfl⟩⟩; refine ⟨_, rfl, ?_⟩))
   go_ret
   exact ⟨by first | rfl | (simp [errW_none, errW_some] <;> rfl) | (simp only [← hji8, ← hji9]; first | rfl | (simp [errW_none, errW_some] <;> rfl)) | (simp [*, errW_none, errW_some] <;> rfl), qq9 HB.out GE343.out GE344.out GE345.out⟩
 ·rw [if_neg c7] at H
  have c7b0 : (t350 == 0) = false := beq_eq_false_iff_ne.mpr c7
  have c7b1 : (t350 != 0) = true := bne_iff_ne.mpr c7
  obtain rfl := Option.some.inj H
  go_enter Try.func50, Try.ntmps50
  try go_wp2_with (first | ((with_reducible refine gate_dst (N := 3) rfl ?_); (try (refine gate_guard (by rfl) ?_; dsimp only)); refine box_event ?hg (N := 3) ?hd (cs := #[.int .i64 a0_0, .int .i64 a0_1]) (t := 32) ?hr ?_; (case hd => rfl); (case hg => rfl); (case hr => exact qq22); intro gb343 hg w41 hbox hb; have n0_ := Aside0.mk (below_step qq1 hb); have n1_ := Aside0.mk (hbox); have n2_ := Aside0.mk ((qq35 : w.heap.size ≤ gb343)); have n3_ := Aside0.mk ((qq35 : w.heap.size ≤ gb343)); clear HB; have HB := n0_; have BK343 := n1_; have GW343 := n2_; have GE343 := n3_; clear n0_ n1_ n2_ n3_; clear hb hbox hg) | ((with_reducible refine gate_dst (N := 4) rfl ?_); (try (refine gate_guard (by rfl) ?_; dsimp only)); refine box_event ?hg (N := 4) ?hd (cs := #[.int .i64 a1_0, .int .i64 a1_1]) (t := 32) ?hr ?_; (case hd => rfl); (case hg => rfl); (case hr => exact qq22); intro gb344 hg w42 hbox hb; have n0_ := Aside0.mk (bbl_ BK343.out hb); have n1_ := Aside0.mk (below_step (qq7 HB.out GE343.out) hb); have n2_ := Aside0.mk (hbox); have n3_ := Aside0.mk ((qq43 HB.out GE343.out : w.heap.size ≤ gb344)); have n4_ := Aside0.mk ((qq43 HB.out GE343.out : w.heap.size ≤ gb344)); have n5_ := Aside0.mk ((qq31 BK343.out : gb343 ≠ gb344)); have n6_ := Aside0.mk ((qq32 BK343.out : gb344 ≠ gb343)); clear BK343; clear HB; have BK343 := n0_; have HB := n1_; have BK344 := n2_; have GW344 := n3_; have GE344 := n4_; have NB343_344 := n5_; have NB344_343 := n6_; clear n0_ n1_ n2_ n3_ n4_ n5_ n6_; clear hb hbox hg) | ((with_reducible refine gate_dst (N := 5) rfl ?_); (try (refine gate_guard (by rfl) ?_; dsimp only)); refine box_event ?hg (N := 5) ?hd (cs := #[.int .i64 a2_0, .int .i64 a2_1]) (t := 32) ?hr ?_; (case hd => rfl); (case hg => rfl); (case hr => exact qq22); intro gb345 hg w43 hbox hb; have n0_ := Aside0.mk (bbl_ BK343.out hb); have n1_ := Aside0.mk (bbl_ BK344.out hb); have n2_ := Aside0.mk (below_step (qq13 HB.out GE343.out GE344.out) hb); have n3_ := Aside0.mk (hbox); have n4_ := Aside0.mk ((qq54 HB.out GE343.out GE344.out : w.heap.size ≤ gb345)); have n5_ := Aside0.mk ((qq54 HB.out GE343.out GE344.out : w.heap.size ≤ gb345)); have n6_ := Aside0.mk ((qq31 BK343.out : gb343 ≠ gb345)); have n7_ := Aside0.mk ((qq32 BK343.out : gb345 ≠ gb343)); have n8_ := Aside0.mk ((qq31 BK344.out : gb344 ≠ gb345)); have n9_ := Aside0.mk ((qq32 BK344.out : gb345 ≠ gb344)); clear BK343; clear BK344; clear HB; have BK343 := n0_; have BK344 := n1_; have HB := n2_; have BK345 := n3_; have GW345 := n4_; have GE345 := n5_; have NB343_345 := n6_; have NB345_343 := n7_; have NB344_345 := n8_; have NB345_344 := n9_; clear n0_ n1_ n2_ n3_ n4_ n5_ n6_ n7_ n8_ n9_; clear hb hbox hg))
  have n0_ := Aside0.mk (blk_drew BK343.out)
  have n1_ := Aside0.mk (blk_drew BK344.out)
  have n2_ := Aside0.mk (blk_drew BK345.out)
  have n3_ := Aside0.mk (below_drew1 HB.out)
  clear BK343
  clear BK344
  clear BK345
  clear HB
  have BK343 := n0_
  have BK344 := n1_
  have BK345 := n2_
  have HB := n3_
  clear n0_ n1_ n2_ n3_
  refine start_ (n := 8) (S := fun w' => w'.cell? ⟨gb343, 0, none⟩ = some (.int .i64 a0_0) ∧ w'.cell? ⟨gb343, 1, none⟩ = some (.int .i64 a0_1) ∧ w'.cell? ⟨gb344, 0, none⟩ = some (.int .i64 a1_0) ∧ w'.cell? ⟨gb344, 1, none⟩ = some (.int .i64 a1_1) ∧ w'.cell? ⟨gb345, 0, none⟩ = some (.int .i64 a2_0) ∧ w'.cell? ⟨gb345, 1, none⟩ = some (.int .i64 a2_1)) (ds := []) #[false, false, false, false, false, false, false, false] (by kernel_rfl) rfl rfl ⟨(blk_cell BK343.out 0).trans rfl, (blk_cell BK343.out 1).trans rfl, (blk_cell BK344.out 0).trans rfl, (blk_cell BK344.out 1).trans rfl, (blk_cell BK345.out 0).trans rfl, (blk_cell BK345.out 1).trans rfl⟩ (fun hHeld => ?_); refine with_tabW spec_l2On.tab1 spec_l2On.bits1 (fun HT_ HW_ => ?_)
  generalize w43.drew = w44 at BK343 BK344 BK345 HB hHeld ⊢
  refine take_ (i := 0) (N := some 7) (v := ?_) (a' := ?_) #[true, false, false, false, false, false, false, false] rfl rfl (take_ofW HT_.out HW_.out (by kernel_rfl)) (fun _ _ _ h => h) (Or.inl ⟨by rfl, ?_⟩) hHeld ?_ ?_
  rotate_left
  ·rintro w' ⟨s0, s1, s2, s3, s4, s5⟩
   go_simp
   with_reducible rfl
  rotate_left
  ·simp only [Act.put, List.setIfInBounds_toArray, List.set_cons_zero, List.set_cons_succ, i64_w, i32_w]
   rfl
  refine take_ (i := 1) (N := some 8) (v := ?_) (a' := ?_) #[true, true, false, false, false, false, false, false] rfl rfl (take_ofW HT_.out HW_.out (by kernel_rfl)) (fun _ _ _ h => h) (Or.inl ⟨by rfl, ?_⟩) hHeld ?_ ?_
  rotate_left
  ·rintro w' ⟨s0, s1, s2, s3, s4, s5⟩
   go_simp
   with_reducible rfl
  rotate_left
  ·simp only [Act.put, List.setIfInBounds_toArray, List.set_cons_zero, List.set_cons_succ, i64_w, i32_w]
   rfl
  refine take_ (i := 3) (N := some 10) (v := ?_) (a' := ?_) #[true, true, false, true, false, false, false, false] rfl rfl (take_ofW HT_.out HW_.out (by kernel_rfl)) (fun _ _ _ h => h) (Or.inl ⟨by rfl, ?_⟩) hHeld ?_ ?_
  rotate_left
  ·rintro w' ⟨s0, s1, s2, s3, s4, s5⟩
   go_simp
   with_reducible rfl
  rotate_left
  ·simp only [Act.put, List.setIfInBounds_toArray, List.set_cons_zero, List.set_cons_succ, i64_w, i32_w]
   rfl
  refine take_ (i := 4) (N := some 11) (v := ?_) (a' := ?_) #[true, true, false, true, true, false, false, false] rfl rfl (take_ofW HT_.out HW_.out (by kernel_rfl)) (fun _ _ _ h => h) (Or.inl ⟨by rfl, ?_⟩) hHeld ?_ ?_
  rotate_left
  ·rintro w' ⟨s0, s1, s2, s3, s4, s5⟩
   go_simp
   with_reducible rfl
  rotate_left
  ·simp only [Act.put, List.setIfInBounds_toArray, List.set_cons_zero, List.set_cons_succ, i64_w, i32_w]
   rfl
  refine one_ (i := 2) (N := some 9) #[true, true, true, true, true, false, false, false] rfl rfl (one_of HT_.out (by kernel_rfl)) (by decide) (fun K hK => ?_)
  refine goes_ Try.func77 (by kernel_rfl) rfl #[.agg #[.int .i64 a0_0, .int .i64 a0_1], .agg #[.int .i64 a1_0, .int .i64 a1_1]] (by rfl) rfl rfl qq3 ?_
  with_reducible refine (spec_l2Step.calls a0_0 a0_1 a1_0 a1_1 t346 t347 _ A4.out).mono ?_
  rintro e w45 ⟨rfl, hb⟩
  refine ⟨_, rfl, ?_⟩
  have n0_ := Aside0.mk (bbl_ BK343.out hb)
  have n1_ := Aside0.mk (bbl_ BK344.out hb)
  have n2_ := Aside0.mk (bbl_ BK345.out hb)
  have n3_ := Aside0.mk (below_step (qq9 HB.out GE343.out GE344.out GE345.out) hb)
  clear BK343
  clear BK344
  clear BK345
  clear HB
  have BK343 := n0_
  have BK344 := n1_
  have BK345 := n2_
  have HB := n3_
  clear n0_ n1_ n2_ n3_
  (try clear hb)
  (try clear hb2)
  (try clear hk)
  (try clear hi)
  refine hK.out _ _ ⟨(blk_cell BK343.out 0).trans rfl, (blk_cell BK343.out 1).trans rfl, (blk_cell BK344.out 0).trans rfl, (blk_cell BK344.out 1).trans rfl, (blk_cell BK345.out 0).trans rfl, (blk_cell BK345.out 1).trans rfl⟩ (fun hHeld => ?_)
  clear hK K
  refine norm_ (a' := ?_) ?_ ?_
  rotate_left
  ·show Act.put _ (some 9) _ = _
   simp only [Act.put, List.setIfInBounds_toArray, List.set_cons_zero, List.set_cons_succ, i64_w, i32_w]
   rfl
  refine one_ (i := 5) (N := some 12) #[true, true, true, true, true, true, false, false] rfl rfl (one_of HT_.out (by kernel_rfl)) (by decide) (fun K hK => ?_)
  refine goes_ Try.func77 (by kernel_rfl) rfl #[.agg #[.int .i64 a0_0, .int .i64 a0_1], .agg #[.int .i64 a2_0, .int .i64 a2_1]] (by rfl) rfl rfl qq3 ?_
  with_reducible refine (spec_l2Step.calls a0_0 a0_1 a2_0 a2_1 t348 t349 _ A5.out).mono ?_
  rintro e w46 ⟨rfl, hb⟩
  refine ⟨_, rfl, ?_⟩
  have n0_ := Aside0.mk (bbl_ BK343.out hb)
  have n1_ := Aside0.mk (bbl_ BK344.out hb)
  have n2_ := Aside0.mk (bbl_ BK345.out hb)
  have n3_ := Aside0.mk (below_step (qq9 HB.out GE343.out GE344.out GE345.out) hb)
  clear BK343
  clear BK344
  clear BK345
  clear HB
  have BK343 := n0_
  have BK344 := n1_
  have BK345 := n2_
  have HB := n3_
  clear n0_ n1_ n2_ n3_
  (try clear hb)
  (try clear hb2)
  (try clear hk)
  (try clear hi)
  refine hK.out _ _ ⟨(blk_cell BK343.out 0).trans rfl, (blk_cell BK343.out 1).trans rfl, (blk_cell BK344.out 0).trans rfl, (blk_cell BK344.out 1).trans rfl, (blk_cell BK345.out 0).trans rfl, (blk_cell BK345.out 1).trans rfl⟩ (fun hHeld => ?_)
  clear hK K
  refine norm_ (a' := ?_) ?_ ?_
  rotate_left
  ·show Act.put _ (some 12) _ = _
   simp only [Act.put, List.setIfInBounds_toArray, List.set_cons_zero, List.set_cons_succ, i64_w, i32_w]
   rfl
  refine one_ (i := 6) (N := some 13) #[true, true, true, true, true, true, true, false] rfl rfl (one_of HT_.out (by kernel_rfl)) (by decide) (fun K hK => ?_)
  refine goes_ Try.func75 (by kernel_rfl) rfl #[.agg #[.int .i64 t346, .int .i64 t347], .agg #[.int .i64 t348, .int .i64 t349]] (by rfl) rfl rfl qq3 ?_
  with_reducible refine (spec_l2Cross.calls t346 t347 t348 t349 t350 _ A6.out).mono ?_
  rintro e w47 ⟨rfl, hb⟩
  refine ⟨_, rfl, ?_⟩
  have n0_ := Aside0.mk (bbl_ BK343.out hb)
  have n1_ := Aside0.mk (bbl_ BK344.out hb)
  have n2_ := Aside0.mk (bbl_ BK345.out hb)
  have n3_ := Aside0.mk (below_step (qq9 HB.out GE343.out GE344.out GE345.out) hb)
  clear BK343
  clear BK344
  clear BK345
  clear HB
  have BK343 := n0_
  have BK344 := n1_
  have BK345 := n2_
  have HB := n3_
  clear n0_ n1_ n2_ n3_
  (try clear hb)
  (try clear hb2)
  (try clear hk)
  (try clear hi)
  refine hK.out _ _ ⟨(blk_cell BK343.out 0).trans rfl, (blk_cell BK343.out 1).trans rfl, (blk_cell BK344.out 0).trans rfl, (blk_cell BK344.out 1).trans rfl, (blk_cell BK345.out 0).trans rfl, (blk_cell BK345.out 1).trans rfl⟩ (fun hHeld => ?_)
  clear hK K
  refine norm_ (a' := ?_) ?_ ?_
  rotate_left
  ·show Act.put _ (some 13) _ = _
   simp only [Act.put, List.setIfInBounds_toArray, List.set_cons_zero, List.set_cons_succ, i64_w, i32_w]
   rfl
  refine pure_ (i := 7) (N := some 14) #[true, true, true, true, true, true, true, true] rfl rfl (any_of HT_.out (by kernel_rfl)) (fun _ _ _ h => h) (Or.inl ⟨by rfl, pA_⟩) pB_ ?_
  refine done_ (done_of HT_.out (by kernel_rfl)) ?_
  try go_wp2
  go_ret
  exact ⟨qq10, qq9 HB.out GE343.out GE344.out GE345.out⟩

end Go.Proofs.Ytgdhgncdpmalcaa.Q
namespace Go.Proofs.Ytgdhgncdpmalcaa.Pure
open Go.RowKit Go.Proofs.Ytgdhgncdpmalcaa.Q Go.Proofs.YtgdhgncdpmalcaaW.PrintWords Go.Proofs.YtgdhgncdpmalcaaW.PrintLast Go.Proofs.YtgdhgncdpmalcaaW.PrintMore

/-- What PointOn answers. -/
def onP (a b c d e f : Int) : Prop := crs a b c d e f = 0 ∧ min a c ≤ e ∧ e ≤ max a c ∧ min b d ≤ f ∧ f ≤ max b d
instance (a b c d e f : Int) : Decidable (onP a b c d e f) := by unfold onP; infer_instance
def onR (a b c d e f : Int) : Bool := decide (PV a b = true ∧ PV c d = true ∧ PV e f = true ∧ onP a b c d e f)

theorem spec_l2On_eq {a b c d e f : Int} (h : PV a b = true) (h' : PV c d = true) (h'' : PV e f = true) : spec_l2On.f a b c d e f = some (decide (onP a b c d e f)) := by
  unfold spec_l2On.f
  rw [spec_l2Step_eq h h', spec_l2Step_eq h h'']
  simp only [Option.bind_some, spec_cross_eq h h' h'', spec_l6In_eq, mx_eq, mn_eq]
  by_cases h0 : crs a b c d e f = 0
  · rw [if_pos h0]
    by_cases h1 : min a c ≤ e ∧ e ≤ max a c
    · rw [if_pos (by simpa using h1)]; congr 1; rw [decide_eq_decide]; unfold onP; omega
    · rw [if_neg (by simpa using h1)]; congr 1; symm; rw [decide_eq_false_iff_not]; unfold onP; omega
  · rw [if_neg h0]; congr 1; symm; rw [decide_eq_false_iff_not]; unfold onP; omega

theorem impl_between_eq (a b c : Int) : impl_between.f a b c = some (decide (min a b ≤ c ∧ c ≤ max a b)) := by
  unfold impl_between.f
  rw [mx_eq, mn_eq]
  by_cases h : min a b ≤ c
  · rw [if_pos h]; congr 1; rw [decide_eq_decide]; omega
  · rw [if_neg h]; congr 1; symm; rw [decide_eq_false_iff_not]; omega

theorem impl_PointOn_eq (k : Nat) (a b c d e f : Int) : impl_PointOn.f (k + 1) a b c d e f = some (onR a b c d e f) := by
  simp only [impl_PointOn.f, impl_PointSide_eq, Option.bind_some, impl_PointOn.j0, impl_between_eq, onR]
  by_cases h : PV a b = true ∧ PV c d = true ∧ PV e f = true
  · rw [sideR_yes h.1 h.2.1 h.2.2, if_pos rfl]
    by_cases h0 : crs a b c d e f = 0
    · rw [if_neg (by simp [sgn_zero.2 h0])]
      by_cases h1 : min a c ≤ e ∧ e ≤ max a c
      · rw [if_pos (by simpa using h1)]; congr 1; rw [decide_eq_decide]
        constructor
        · intro hh; exact ⟨h.1, h.2.1, h.2.2, h0, by omega, by omega, by omega, by omega⟩
        · rintro ⟨_, _, _, _, _, _, h5, h6⟩; exact ⟨h5, h6⟩
      · rw [if_neg (by simpa using h1)]; congr 1; symm; rw [decide_eq_false_iff_not]; unfold onP; omega
    · rw [if_pos (by simpa [sgn_zero] using h0)]; congr 1; symm; rw [decide_eq_false_iff_not]; unfold onP; omega
  · rw [sideR_no h, if_neg (by simp), if_pos trivial]; congr 1; symm; rw [decide_eq_false_iff_not]
    rintro ⟨h1, h2, h3, _⟩; exact h ⟨h1, h2, h3⟩

end Go.Proofs.Ytgdhgncdpmalcaa.Pure
