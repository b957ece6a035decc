/- Part 2 of what the proof of this law rests on: the functions of the translation as plain Lean functions with their walks, and the plain laws behind. -/
import Derived.ArgAppend
import Derived.Below
import Derived.BigQuiet
import Derived.BigRegion
import Derived.Carry
import Derived.Deep.AppendLies
import Derived.Deep.CutBlock
import Derived.Deep.DeepCutAuto
import Derived.Deep.Draws
import Derived.Deep.LoopGhost
import Derived.Deep.OwnRows
import Derived.Deep.QuietTactic
import Derived.Deep.RegionHeld3
import Derived.Deep.RegionHeldLaw
import Derived.Deep.RegionLaw
import Derived.KernelRfl
import Derived.Laws.BitsLemmas
import Derived.Laws.BytesArg
import Derived.Laws.CopyOwn
import Derived.Laws.IdiomCopy
import Derived.Laws.MakeOwn
import Derived.Laws.OwnMore
import Derived.Laws.Rows
import Derived.Laws.Slices
import Derived.Lib.AppendStr
import Derived.Lib.ConvBytes
import Derived.Maps.AppendAt
import Derived.Maps.GroupsBeside
import Derived.OrdersHeld
import Derived.OwnWalk
import Derived.RowKit
import Derived.RowKit3
import Derived.StillTactics
import Derived.Tactics
import Derived.Test.YtmcfhmflncghiaaProg
import Derived.WalkKit
import Derived.WalkSpells
import Derived.WideLaws
import Derived.Test.YtmcfhmflncghiaaMFnLoopCloses1
namespace Go.Proofs.Ytmcfhmflncghiaa.Q
open Go.RowKit Go.Proofs.YtmcfhmflncghiaaW.PrintWords Go.Proofs.YtmcfhmflncghiaaW.PrintLast Go.Proofs.YtmcfhmflncghiaaW.PrintMore
/-! proofs that stand many times below, each found by its script where it is named -/
theorem pA_ {p : Prop} (h : p := by (intro w'; go_simp; with_reducible rfl)) : p := h
theorem pB_ {p : Prop} (h : p := by (simp only [Act.put, List.setIfInBounds_toArray, List.set_cons_zero, List.set_cons_succ, i64_w, i32_w]; rfl)) : p := h
theorem bbl_ {w1 w w' : World} {g : Nat} {o : Obj} (h0 : w1.heap[g]? = some o) (hb : Below w.heap.size w w') (h : w1.heap[g]? = some o → w.heap[g]? = some o := by (intro q; (with_reducible repeat (first | refine blk_drewN ?_ _ | refine blk_drew ?_ | refine blk_alloc ?_ _)); exact q)) : w'.heap[g]? = some o := blk_below (h h0) hb
theorem blt_ {w1 w : World} {g : Nat} {o : Obj} (h0 : w1.heap[g]? = some o) (h : w1.heap[g]? = some o → w.heap[g]? = some o := by (intro q; (with_reducible repeat (first | refine blk_drewN ?_ _ | refine blk_drew ?_ | refine blk_alloc ?_ _)); exact q)) : g < w.heap.size := blk_lt (h h0)
theorem qq1 {p : Prop} (h : p := by repeat (first | (with_reducible first | exact HB.out | apply below_alloc | apply pw_below_drewN | apply below_drew1) | exact HB.out)) : p := h
theorem qq2 {p c'1 : Prop} (Y'1 : c'1) (h : c'1 → p := by intro Y'1; (with_reducible repeat (first | apply Kd.R_alloc | apply Kd.R_drewN | apply Kd.R_drew)); exact Y'1) : p := h Y'1
theorem qq3 {p : Prop} (h : p := by first | (with_reducible assumption) | assumption) : p := h
theorem qq4 {p c'1 c'2 : Prop} (Y'1 : c'1) (Y'2 : c'2) (h : c'1 → c'2 → p := by intro Y'1 Y'2; repeat (first | (with_reducible first | exact Y'1 | apply below_alloc | apply pw_below_drewN | apply below_drew1 | refine below_set ?_ Y'2) | exact Y'1)) : p := h Y'1 Y'2
theorem qq5 {p : Prop} (h : p := by (try simp only [List.map_toArray, List.map_cons, List.map_nil]); first | done | rfl | (simp only [List.length_drop, List.length_take]; rfl)) : p := h
theorem qq6 {p : Prop} (h : p := by repeat (first | (with_reducible first | exact HK.out | apply KeepBut.set_ | apply keep_drewN | apply keep_drew | apply keep_alloc) | exact HK.out)) : p := h
theorem qq7 {p : Prop} (h : p := by (with_reducible repeat (first | refine blk_drewN ?_ _ | refine blk_drew ?_ | refine blk_alloc ?_ _)); refine blk_put (cs := #[.int .i64 ((rd_T32 l1 x18_1).f0), .int .i64 ((rd_T32 l1 x18_1).f1), .int .i64 ((rd_T32 l1 x18_1).f2), .int .i64 0]) ?_ 3 _ rfl; (with_reducible repeat (first | refine blk_drewN ?_ _ | refine blk_drew ?_ | refine blk_alloc ?_ _)); refine blk_put (cs := #[.int .i64 ((rd_T32 l1 x18_1).f0), .int .i64 ((rd_T32 l1 x18_1).f1), .int .i64 0, .int .i64 0]) ?_ 2 _ rfl; (with_reducible repeat (first | refine blk_drewN ?_ _ | refine blk_drew ?_ | refine blk_alloc ?_ _)); refine blk_put (cs := #[.int .i64 ((rd_T32 l1 x18_1).f0), .int .i64 0, .int .i64 0, .int .i64 0]) ?_ 1 _ rfl; (with_reducible repeat (first | refine blk_drewN ?_ _ | refine blk_drew ?_ | refine blk_alloc ?_ _)); refine blk_put (cs := #[.int .i64 0, .int .i64 0, .int .i64 0, .int .i64 0]) ?_ 0 _ rfl; (with_reducible repeat (first | refine blk_drewN ?_ _ | refine blk_drew ?_ | refine blk_alloc ?_ _)); exact BK231.out) : p := h
theorem qq8 {p : Prop} (h : p := by repeat (first | (with_reducible first | exact HB.out | apply below_alloc | apply pw_below_drewN | apply below_drew1 | refine below_set ?_ (IsS61.ge HI0.out)) | exact HB.out)) : p := h
theorem qq9 {p : Prop} (h : p := by repeat (first | (with_reducible first | exact HI0.out | apply IsS61.alloc | apply IsS61.drewN | apply IsS61.drew | apply IsS61.set_1) | exact HI0.out)) : p := h
theorem qq10 {p c'1 c'2 : Prop} (Y'1 : c'1) (Y'2 : c'2) (h : c'1 → c'2 → p := by intro Y'1 Y'2; repeat (first | exact (Kd.C_below Y'1 Y'2) | (with_reducible refine Kd.C_alloc ?_ _) | (with_reducible refine Kd.C_drewN ?_ _) | (with_reducible refine Kd.C_drew ?_))) : p := h Y'1 Y'2
theorem qq11 {p : Prop} (h : p := by first | rfl | (simp [errW_none, errW_some] <;> rfl) | (simp [*, errW_none, errW_some] <;> rfl)) : p := h
theorem qq12 {p c'1 : Prop} (Y'1 : c'1) (h : c'1 → p := by intro Y'1; repeat (first | exact (Kd.R_reads' Y'1).2.2 | (with_reducible refine Kd.C_alloc ?_ _) | (with_reducible refine Kd.C_drewN ?_ _) | (with_reducible refine Kd.C_drew ?_))) : p := h Y'1
theorem qq13 {p : Prop} (h : p := by (with_reducible repeat (first | apply Kd.R_alloc | apply Kd.R_drewN | apply Kd.R_drew)); exact (Kd.R_mono (Kd.R_far (p := ⟨gb231, 3, none⟩) (Kd.R_far (p := ⟨gb231, 2, none⟩) (Kd.R_far (p := ⟨gb231, 1, none⟩) (Kd.R_far (p := ⟨gb231, 0, none⟩) (Kd.R_types HO_6.out BK231.out (by decide)) (fun _ hk => hk.2) (.int .i64 ((rd_T32 l1 x18_1).f0))) (fun _ hk => hk.2) (.int .i64 ((rd_T32 l1 x18_1).f1))) (fun _ hk => hk.2) (.int .i64 ((rd_T32 l1 x18_1).f2))) (fun _ hk => hk.2) (.int .i64 ((rd_T32 l1 x18_1).f3))) (fun _ h_ => h_.1))) : p := h
theorem qq14 {p : Prop} (h : p := by first | rfl | (simp; done) | (simp [*]; done)) : p := h
theorem qq15 {p c'1 : Prop} (Y'1 : c'1) (h : c'1 → p := by intro Y'1; repeat (first | exact Y'1 | (with_reducible refine Kd.C_alloc ?_ _) | (with_reducible refine Kd.C_drewN ?_ _) | (with_reducible refine Kd.C_drew ?_))) : p := h Y'1
theorem qq16 {p : Prop} (h : p := by first | (go_simp; done) | (go_simp; rfl)) : p := h
theorem qq17 {p c'1 : Prop} (Y'1 : c'1) (h : c'1 → p := by intro Y'1; (with_reducible repeat (first | apply Kd.R_alloc | apply Kd.R_drewN | apply Kd.R_drew)); exact Kd.R_mono Y'1 (fun _ hk => trivial)) : p := h Y'1
theorem qq18 {p : Prop} (h : p := by have := World.block_lt_of_cell? _ _ hx481_0; first | rwa [add_block] at this | exact this) : p := h
theorem qq19 {p : Prop} (h : p := by have := World.block_lt_of_cell? _ _ hx482_0; first | rwa [add_block] at this | exact this) : p := h
theorem qq20 {p : Prop} (h : p := by (with_reducible repeat (first | refine blk_drewN ?_ _ | refine blk_drew ?_ | refine blk_alloc ?_ _)); refine blk_put (cs := #[.int .i64 ((rd_T32 l1 x5_2).f0), .int .i64 ((rd_T32 l1 x5_2).f1), .int .i64 ((rd_T32 l1 x5_2).f2), .int .i64 0]) ?_ 3 _ rfl; (with_reducible repeat (first | refine blk_drewN ?_ _ | refine blk_drew ?_ | refine blk_alloc ?_ _)); refine blk_put (cs := #[.int .i64 ((rd_T32 l1 x5_2).f0), .int .i64 ((rd_T32 l1 x5_2).f1), .int .i64 0, .int .i64 0]) ?_ 2 _ rfl; (with_reducible repeat (first | refine blk_drewN ?_ _ | refine blk_drew ?_ | refine blk_alloc ?_ _)); refine blk_put (cs := #[.int .i64 ((rd_T32 l1 x5_2).f0), .int .i64 0, .int .i64 0, .int .i64 0]) ?_ 1 _ rfl; (with_reducible repeat (first | refine blk_drewN ?_ _ | refine blk_drew ?_ | refine blk_alloc ?_ _)); refine blk_put (cs := #[.int .i64 0, .int .i64 0, .int .i64 0, .int .i64 0]) ?_ 0 _ rfl; (with_reducible repeat (first | refine blk_drewN ?_ _ | refine blk_drew ?_ | refine blk_alloc ?_ _)); exact BK160.out) : p := h
theorem qq21 {p c'1 c'2 : Prop} (Y'1 : c'1) (Y'2 : c'2) (h : c'1 → c'2 → p := by intro Y'1 Y'2; (try simp only [hl9_1]); (try simp only [hl9_2]); (with_reducible repeat (first | apply Kd.R_alloc | apply Kd.R_drewN | apply Kd.R_drew)); exact Kd.R_mono (Kd.R_far (p := ⟨gb464, 3, none⟩) (Kd.R_far (p := ⟨gb464, 2, none⟩) (Kd.R_far (p := ⟨gb464, 1, none⟩) (Kd.R_far (p := ⟨gb464, 0, none⟩) (Kd.R_types Y'1 Y'2 (by decide)) (fun _ hk => hk.2) (.int .i64 ((rd_T32 t460 x32_2).f0))) (fun _ hk => hk.2) (.int .i64 ((rd_T32 t460 x32_2).f1))) (fun _ hk => hk.2) (.int .i64 ((rd_T32 t460 x32_2).f2))) (fun _ hk => hk.2) (.int .i64 ((rd_T32 t460 x32_2).f3))) (fun _ hk => trivial)) : p := h Y'1 Y'2
theorem qq22 {p c'1 : Prop} (Y'1 : c'1) (h : c'1 → p := by intro Y'1; repeat (first | (with_reducible exact Y'1) | (with_reducible refine Kd.C_alloc ?_ _) | (with_reducible refine Kd.C_drewN ?_ _) | (with_reducible refine Kd.C_drew ?_) | exact Y'1)) : p := h Y'1
theorem qq23 {p c'1 : Prop} (Y'1 : c'1) (h : c'1 → p := by intro Y'1; (with_reducible repeat (first | refine blk_drewN ?_ _ | refine blk_drew ?_ | refine blk_alloc ?_ _)); exact Y'1) : p := h Y'1
theorem qq24 {p c'1 : Prop} (Y'1 : c'1) (h : c'1 → p := by intro Y'1; (with_reducible repeat (first | apply Kd.R_alloc | apply Kd.R_drewN | apply Kd.R_drew)); exact Kd.R_mono Y'1 (fun _ hk => ⟨hk.1.2, hk.2⟩)) : p := h Y'1
theorem qq25 {p c'1 c'2 : Prop} (Y'1 : c'1) (Y'2 : c'2) (h : c'1 → c'2 → p := by intro Y'1 Y'2; repeat (first | (with_reducible first | exact Y'1 | apply IsS61.alloc | apply IsS61.drewN | apply IsS61.drew | apply IsS61.set_1 | refine IsS61.far ?_ Y'2 _) | exact Y'1)) : p := h Y'1 Y'2
theorem qq26 {p : Prop} (h : p := by repeat (first | exact Drawn0.refl _ | apply Drawn0.step)) : p := h
theorem qq27 {p c'1 : Prop} (Y'1 : c'1) (h : c'1 → p := by intro Y'1; (try simp only [hl9_1]); (try simp only [hl9_2]); (with_reducible repeat (first | apply Kd.R_alloc | apply Kd.R_drewN | apply Kd.R_drew)); exact Y'1) : p := h Y'1
theorem qq28 {p c'1 c'2 : Prop} (Y'1 : c'1) (Y'2 : c'2) (h : c'1 → c'2 → p := by intro Y'1 Y'2; repeat (first | (with_reducible first | exact Y'1 | apply KeepBut.set_ | apply keep_drewN | apply keep_drew | apply keep_alloc | refine keep_far ?_ Y'2 _) | exact Y'1)) : p := h Y'1 Y'2
theorem qq29 {p : Prop} (h : p := by (try simp only [hl9_1]); (try simp only [hl9_2]); (with_reducible repeat (first | refine blk_drewN ?_ _ | refine blk_drew ?_ | refine blk_alloc ?_ _)); refine blk_put (cs := #[.int .i64 ((rd_T32 t460 x32_2).f0), .int .i64 ((rd_T32 t460 x32_2).f1), .int .i64 ((rd_T32 t460 x32_2).f2), .int .i64 0]) ?_ 3 _ rfl; (with_reducible repeat (first | refine blk_drewN ?_ _ | refine blk_drew ?_ | refine blk_alloc ?_ _)); refine blk_put (cs := #[.int .i64 ((rd_T32 t460 x32_2).f0), .int .i64 ((rd_T32 t460 x32_2).f1), .int .i64 0, .int .i64 0]) ?_ 2 _ rfl; (with_reducible repeat (first | refine blk_drewN ?_ _ | refine blk_drew ?_ | refine blk_alloc ?_ _)); refine blk_put (cs := #[.int .i64 ((rd_T32 t460 x32_2).f0), .int .i64 0, .int .i64 0, .int .i64 0]) ?_ 1 _ rfl; (with_reducible repeat (first | refine blk_drewN ?_ _ | refine blk_drew ?_ | refine blk_alloc ?_ _)); refine blk_put (cs := #[.int .i64 0, .int .i64 0, .int .i64 0, .int .i64 0]) ?_ 0 _ rfl; (with_reducible repeat (first | refine blk_drewN ?_ _ | refine blk_drew ?_ | refine blk_alloc ?_ _)); exact BK464.out) : p := h
theorem qq30 {p : Prop} (h : p := by first | (rw [add_block]; exact Kd.own_blk (IsS61.own_ne HI0.out HO_7.out (by decide))) | (show (Addr.add _ _).block ≠ _; rw [add_block]; exact Kd.own_blk (IsS61.own_ne HI0.out HO_7.out (by decide))) | exact Kd.own_blk (IsS61.own_ne HI0.out HO_7.out (by decide)) | (intro e_; exact ((IsS61.own_ne HI0.out HO_7.out (by decide))) (by rw [← e_]; rfl))) : p := h
theorem qq31 {p : Prop} (h : p := by (with_reducible repeat (first | refine blk_drewN ?_ _ | refine blk_drew ?_ | refine blk_alloc ?_ _)); refine blk_put (cs := #[.int .i64 ((rd_T32 l0 (rd l1 x12_1)).f0), .int .i64 ((rd_T32 l0 (rd l1 x12_1)).f1), .int .i64 ((rd_T32 l0 (rd l1 x12_1)).f2), .int .i64 0]) ?_ 3 _ rfl; (with_reducible repeat (first | refine blk_drewN ?_ _ | refine blk_drew ?_ | refine blk_alloc ?_ _)); refine blk_put (cs := #[.int .i64 ((rd_T32 l0 (rd l1 x12_1)).f0), .int .i64 ((rd_T32 l0 (rd l1 x12_1)).f1), .int .i64 0, .int .i64 0]) ?_ 2 _ rfl; (with_reducible repeat (first | refine blk_drewN ?_ _ | refine blk_drew ?_ | refine blk_alloc ?_ _)); refine blk_put (cs := #[.int .i64 ((rd_T32 l0 (rd l1 x12_1)).f0), .int .i64 0, .int .i64 0, .int .i64 0]) ?_ 1 _ rfl; (with_reducible repeat (first | refine blk_drewN ?_ _ | refine blk_drew ?_ | refine blk_alloc ?_ _)); refine blk_put (cs := #[.int .i64 0, .int .i64 0, .int .i64 0, .int .i64 0]) ?_ 0 _ rfl; (with_reducible repeat (first | refine blk_drewN ?_ _ | refine blk_drew ?_ | refine blk_alloc ?_ _)); exact BK381.out) : p := h
theorem qq32 {p c'1 : Prop} (Y'1 : c'1) (h : c'1 → p := by intro Y'1; (with_reducible repeat (first | apply Kd.R_alloc | apply Kd.R_drewN | apply Kd.R_drew)); exact Kd.R_mono Y'1 (fun _ hk => hk.2)) : p := h Y'1
theorem qq33 {p : Prop} (h : p := by (with_reducible repeat (first | refine blk_drewN ?_ _ | refine blk_drew ?_ | refine blk_alloc ?_ _)); refine blk_put (cs := #[.int .i64 ((rd_T32 l1 x20_2).f0), .int .i64 ((rd_T32 l1 x20_2).f1), .int .i64 ((rd_T32 l1 x20_2).f2), .int .i64 0]) ?_ 3 _ rfl; (with_reducible repeat (first | refine blk_drewN ?_ _ | refine blk_drew ?_ | refine blk_alloc ?_ _)); refine blk_put (cs := #[.int .i64 ((rd_T32 l1 x20_2).f0), .int .i64 ((rd_T32 l1 x20_2).f1), .int .i64 0, .int .i64 0]) ?_ 2 _ rfl; (with_reducible repeat (first | refine blk_drewN ?_ _ | refine blk_drew ?_ | refine blk_alloc ?_ _)); refine blk_put (cs := #[.int .i64 ((rd_T32 l1 x20_2).f0), .int .i64 0, .int .i64 0, .int .i64 0]) ?_ 1 _ rfl; (with_reducible repeat (first | refine blk_drewN ?_ _ | refine blk_drew ?_ | refine blk_alloc ?_ _)); refine blk_put (cs := #[.int .i64 0, .int .i64 0, .int .i64 0, .int .i64 0]) ?_ 0 _ rfl; (with_reducible repeat (first | refine blk_drewN ?_ _ | refine blk_drew ?_ | refine blk_alloc ?_ _)); exact BK206.out) : p := h
theorem qq34 {p : Prop} (h : p := by rw [hg]; exact (below_size qq1)) : p := h
theorem qq35 {p c'1 c'2 c'3 : Prop} (Y'1 : c'1) (Y'2 : c'2) (Y'3 : c'3) (h : c'1 → c'2 → c'3 → p := by intro Y'1 Y'2 Y'3; repeat (first | (with_reducible first | exact Y'1 | apply below_alloc | apply pw_below_drewN | apply below_drew1 | refine below_set ?_ Y'2 | refine below_set ?_ Y'3) | exact Y'1)) : p := h Y'1 Y'2 Y'3
theorem qq36 {p : Prop} (h : p := by (try simp only [hl9_1]); (try simp only [hl9_2]); (with_reducible repeat (first | apply Kd.R_alloc | apply Kd.R_drewN | apply Kd.R_drew)); exact Kd.R_mono (Kd.R_far (p := ⟨gb464, 3, none⟩) (Kd.R_far (p := ⟨gb464, 2, none⟩) (Kd.R_far (p := ⟨gb464, 1, none⟩) (Kd.R_far (p := ⟨gb464, 0, none⟩) (Kd.R_mono HO_30.out (fun k_ hk => (⟨hk, hk.2⟩ : _ ∧ k_ ≠ gb464))) (fun _ hk => hk.2) (.int .i64 ((rd_T32 t460 x32_2).f0))) (fun _ hk => hk.2) (.int .i64 ((rd_T32 t460 x32_2).f1))) (fun _ hk => hk.2) (.int .i64 ((rd_T32 t460 x32_2).f2))) (fun _ hk => hk.2) (.int .i64 ((rd_T32 t460 x32_2).f3))) (fun _ hk => hk.1.2)) : p := h
theorem qq37 {p : Prop} (h : p := by exact qq10 HR1.out HB.out) : p := h
theorem qq38 {p : Prop} (h : p := by first | (rw [add_block]; exact hn481_0) | (show (Addr.add _ _).block ≠ _; rw [add_block]; exact hn481_0) | exact hn481_0) : p := h
theorem qq39 {p : Prop} (h : p := by first | (rw [add_block]; exact hn481_1) | (show (Addr.add _ _).block ≠ _; rw [add_block]; exact hn481_1) | exact hn481_1) : p := h
theorem qq40 {p : Prop} (h : p := by first | (rw [add_block]; exact hn481_2) | (show (Addr.add _ _).block ≠ _; rw [add_block]; exact hn481_2) | exact hn481_2) : p := h
theorem qq41 {p : Prop} (h : p := by first | (rw [add_block]; exact hn481_3) | (show (Addr.add _ _).block ≠ _; rw [add_block]; exact hn481_3) | exact hn481_3) : p := h
theorem qq42 {p : Prop} (h : p := by first | (rw [add_block]; exact hn482_0) | (show (Addr.add _ _).block ≠ _; rw [add_block]; exact hn482_0) | exact hn482_0) : p := h
theorem qq43 {p : Prop} (h : p := by first | (rw [add_block]; exact hn482_1) | (show (Addr.add _ _).block ≠ _; rw [add_block]; exact hn482_1) | exact hn482_1) : p := h
theorem qq44 {p : Prop} (h : p := by first | (rw [add_block]; exact hn482_2) | (show (Addr.add _ _).block ≠ _; rw [add_block]; exact hn482_2) | exact hn482_2) : p := h
theorem qq45 {p : Prop} (h : p := by first | (rw [add_block]; exact hn482_3) | (show (Addr.add _ _).block ≠ _; rw [add_block]; exact hn482_3) | exact hn482_3) : p := h
theorem qq46 {p : Prop} (h : p := by first | omega | exact Nat.le_refl _) : p := h
theorem qq47 {p : Prop} (h : p := by (try simp only [hl9_1]); (try simp only [hl9_2]); (with_reducible repeat (first | apply Kd.R_alloc | apply Kd.R_drewN | apply Kd.R_drew)); exact Kd.R_mono HO_30.out (fun _ hk => trivial)) : p := h
theorem qq48 {p : Prop} (h : p := by first | rfl | (simp [errW_none, errW_some] <;> rfl) | (simp only [← hji12]; first | rfl | (simp [errW_none, errW_some] <;> rfl)) | (simp [*, errW_none, errW_some] <;> rfl)) : p := h
theorem qq49 {p : Prop} (h : p := by rw [hg]; exact (below_size (by repeat (first | (with_reducible first | exact HBW.out | apply below_alloc | apply pw_below_drewN | apply below_drew1) | exact HBW.out)))) : p := h
theorem qq50 {p c'1 c'2 : Prop} (Y'1 : c'1) (Y'2 : c'2) (h : c'1 → c'2 → p := by intro Y'1 Y'2; have := Y'1; have := Y'2; first | omega | exact Nat.le_refl _) : p := h Y'1 Y'2
theorem qq51 {p c'1 c'2 c'3 : Prop} (Y'1 : c'1) (Y'2 : c'2) (Y'3 : c'3) (h : c'1 → c'2 → c'3 → p := by intro Y'1 Y'2 Y'3; repeat (first | (with_reducible first | exact Y'1 | apply below_alloc | apply pw_below_drewN | apply below_drew1 | refine below_set ?_ (IsS61.ge Y'2) | refine below_set ?_ Y'3) | exact Y'1)) : p := h Y'1 Y'2 Y'3
theorem qq52 {p c'1 : Prop} (Y'1 : c'1) (h : c'1 → p := by intro Y'1; exact (Kd.R_reads' Y'1).2.1) : p := h Y'1
theorem qq53 {p : Prop} (h : p := by repeat (first | (with_reducible first | exact HB.out | apply below_alloc | apply pw_below_drewN | apply below_drew1 | refine below_set ?_ (IsS61.ge HI197.out)) | exact HB.out)) : p := h
theorem qq54 {p : Prop} (h : p := by (with_reducible repeat (first | refine blk_drewN ?_ _ | refine blk_drew ?_ | refine blk_alloc ?_ _)); refine blk_far ?_ (by have h_ := Kd.R_ne HO_8.out BK464.out (by decide); intro e_; exact h_ (by rw [e_]; rfl)) _; (with_reducible repeat (first | refine blk_drewN ?_ _ | refine blk_drew ?_ | refine blk_alloc ?_ _)); exact BK464.out) : p := h
theorem qq55 {p c'1 : Prop} (Y'1 : c'1) (h : c'1 → p := by intro Y'1; exact (fun k_ hk => Kd.fresh' (Kd.R_lt (qq2 Y'1)) k_ hk)) : p := h Y'1
theorem qq56 {p c'1 c'2 c'3 : Prop} (Y'1 : c'1) (Y'2 : c'2) (Y'3 : c'3) (h : c'1 → c'2 → c'3 → p := by intro Y'1 Y'2 Y'3; rw [hw]; exact below_set (below_set (below_set (below_set (Y'1) (Nat.le_trans Y'2 Y'3)) (Nat.le_trans Y'2 Y'3)) (Nat.le_trans Y'2 Y'3)) (Nat.le_trans Y'2 Y'3)) : p := h Y'1 Y'2 Y'3
theorem qq57 {p c'1 c'2 c'3 : Prop} (Y'1 : c'1) (Y'2 : c'2) (Y'3 : c'3) (h : c'1 → c'2 → c'3 → p := by intro Y'1 Y'2 Y'3; have := Y'1; have := Y'2; have := Y'3; omega) : p := h Y'1 Y'2 Y'3
theorem qq58 {p : Prop} (h : p := by have := World.block_lt_of_cell? _ _ hx382_0; first | rwa [add_block] at this | exact this) : p := h
theorem qq59 {p : Prop} (h : p := by rw [hg]; exact (below_size (qq4 HB.out GE284.out))) : p := h
theorem qq60 {p : Prop} (h : p := by refine (Kd.R_reads' (e := 3) (base := w.heap.size) (ok := fun k_ => True) (n := x6_1.length) (c := co20) ?_).2.2; exact qq13) : p := h
theorem qq61 {p : Prop} (h : p := by refine (Kd.R_reads' (e := 3) (base := w.heap.size) (ok := fun k_ => True) (n := x6_1.length) (c := co29) ?_).2.2; exact qq13) : p := h
theorem qq62 {p : Prop} (h : p := by exact (Reps.one (show Kd.M (Kd.int .i64) _ _ _ (wrap64 (a2 + 1)) [.int .i64 (wrap64 (a2 + 1))] from rfl) (Reps.none _ _))) : p := h
theorem qq63 {p : Prop} (h : p := by rw [hw]; exact below_set (HB.out) GB16.out) : p := h
theorem qq64 {p : Prop} (h : p := by rw [hg]; exact (keep_size (w := w) (g := g) (row := none) qq6)) : p := h
theorem qq65 {p c'1 : Prop} (Y'1 : c'1) (h : c'1 → p := by intro Y'1; (try simp only [hl7_2]); (with_reducible repeat (first | apply Kd.R_alloc | apply Kd.R_drewN | apply Kd.R_drew)); exact Y'1) : p := h Y'1
theorem qq66 {p c'1 : Prop} (Y'1 : c'1) (h : c'1 → p := by intro Y'1; (try simp only [hl9_1]); (with_reducible repeat (first | apply Kd.R_alloc | apply Kd.R_drewN | apply Kd.R_drew)); exact Y'1) : p := h Y'1
theorem qq67 {p : Prop} (h : p := by exact Kd.C_below HR1.out (qq4 HB.out GE231.out)) : p := h
theorem qq68 {p : Prop} (h : p := by (try simp only [List.map_toArray, List.map_cons, List.map_nil]); first | done | (simp only [hji12]; rfl) | rfl | (simp only [List.length_drop, List.length_take]; rfl)) : p := h
theorem qq69 {p : Prop} (h : p := by rw [List.length_append, List.length_singleton]; omega) : p := h
theorem qq70 {p : Prop} (h : p := by first | rw [e7.out] | rfl) : p := h
theorem qq71 {p c'1 c'2 : Prop} (Y'1 : c'1) (Y'2 : c'2) (h : c'1 → c'2 → p := by intro Y'1 Y'2; exact (fun k_ hk => ⟨Kd.fresh' (Kd.R_lt (qq2 Y'1)) k_ hk, Kd.fresh' (Kd.R_lt (qq2 Y'2)) k_ hk⟩)) : p := h Y'1 Y'2
theorem qq72 {p : Prop} (h : p := by first | (rw [add_block]; exact hn465_0) | (show (Addr.add _ _).block ≠ _; rw [add_block]; exact hn465_0) | exact hn465_0) : p := h
theorem qq73 {p : Prop} (h : p := by first | (rw [add_block]; exact hn465_1) | (show (Addr.add _ _).block ≠ _; rw [add_block]; exact hn465_1) | exact hn465_1) : p := h
theorem qq74 {p : Prop} (h : p := by first | (rw [add_block]; exact hn465_2) | (show (Addr.add _ _).block ≠ _; rw [add_block]; exact hn465_2) | exact hn465_2) : p := h
theorem qq75 {p : Prop} (h : p := by first | (rw [add_block]; exact hn465_3) | (show (Addr.add _ _).block ≠ _; rw [add_block]; exact hn465_3) | exact hn465_3) : p := h
theorem qq76 {p : Prop} (h : p := by simp only [putAll, Act.put, List.setIfInBounds_toArray, List.set_cons_zero, List.set_cons_succ]) : p := h
theorem qq77 {p : Prop} (h : p := by exact (fun _ _ => trivial)) : p := h
theorem qq78 {p c'1 c'2 c'3 c'4 : Prop} (Y'1 : c'1) (Y'2 : c'2) (Y'3 : c'3) (Y'4 : c'4) (h : c'1 → c'2 → c'3 → c'4 → p := by intro Y'1 Y'2 Y'3 Y'4; repeat (first | (with_reducible first | exact Y'1 | apply below_alloc | apply pw_below_drewN | apply below_drew1 | refine below_set ?_ (Nat.le_trans Y'2 Y'3) | refine below_set ?_ (IsS61.ge Y'4)) | exact Y'1)) : p := h Y'1 Y'2 Y'3 Y'4
theorem qq79 {p : Prop} (h : p := by have := HK1.out; have := HK2.out; have := HK3.out; first | omega | exact Nat.le_refl _) : p := h
theorem qq80 {p : Prop} (h : p := by rw [hg]; exact Nat.ne_of_lt (blt_ BK284.out)) : p := h
theorem qq81 {p : Prop} (h : p := by rw [hg]; exact Nat.ne_of_gt (blt_ BK284.out)) : p := h
theorem qq82 {p : Prop} (h : p := by rw [hw]; exact below_set (HB.out) GB10.out) : p := h
theorem qq83 {p : Prop} (h : p := by exact (keep_size (w := w) (g := g) (row := none) qq6)) : p := h
theorem qq84 {p : Prop} (h : p := by have := HK1.out; have := HK2.out; omega) : p := h
theorem qq85 {p : Prop} (h : p := by have := HJ3.out; have := HK2.out; omega) : p := h
end Go.Proofs.Ytmcfhmflncghiaa.Q
namespace Go.Proofs.Ytmcfhmflncghiaa.Q
open Go.RowKit Go.Proofs.YtmcfhmflncghiaaW.PrintWords Go.Proofs.YtmcfhmflncghiaaW.PrintLast Go.Proofs.YtmcfhmflncghiaaW.PrintMore
attribute [local go_sem] max2_int min2_int max_two min_two max_three min_three max_four min_four
set_option linter.unusedVariables false
set_option linter.unusedSimpArgs false

def errW : Option Int → Value
  | none => .nilIface
  | some c => .iface 0 (.int .i64 c)
theorem errW_none : errW none = .nilIface := rfl
theorem errW_some (c : Int) : errW (some c) = .iface 0 (.int .i64 c) := rfl

theorem info3 : (Try.prog.info? 3).map (fun i => (i.zero, i.size, i.bytes)) = some (some (.int .i64 0), 1, 8) := by kernel_rfl
theorem info4 : (Try.prog.info? 4).map (fun i => (i.zero, i.size, i.bytes)) = some (some (.bool false), 1, 1) := by kernel_rfl
theorem info5 : (Try.prog.info? 5).map (fun i => (i.zero, i.size, i.bytes)) = some (some (.int .u8 0), 1, 1) := by kernel_rfl
theorem info32 : (Try.prog.info? 32).map (fun i => (i.zero, i.size, i.bytes)) = some (some (.agg #[(.int .i64 0), (.int .i64 0), (.int .i64 0), (.int .i64 0)]), 4, 32) := by kernel_rfl
-- the values' own types
/-! #### struct type 32 -/
structure S32 where
  f0 : Int
  f1 : Int
  f2 : Int
  f3 : Int
def z32 : S32 := ⟨(0 : Int), (0 : Int), (0 : Int), (0 : Int)⟩
def k32 : Kd S32 := Kd.iso (Kd.pair (Kd.int .i64) (Kd.pair (Kd.int .i64) (Kd.pair (Kd.int .i64) (Kd.int .i64)))) (fun x : S32 => (x.f0, x.f1, x.f2, x.f3))
theorem k32_open {w : World} {x : S32} {cs : List Value} (h : k32.K w x cs) : cs = [.int .i64 x.f0, .int .i64 x.f1, .int .i64 x.f2, .int .i64 x.f3] := by
  obtain ⟨_, _, rfl, rfl, ⟨_, _, rfl, rfl, ⟨_, _, rfl, rfl, rfl⟩⟩⟩ := h
  exact rfl
theorem k32_openM {w : World} {base : Nat} {ok : Nat → Prop} {x : S32} {cs : List Value} (h : k32.M w base ok x cs) : cs = [.int .i64 x.f0, .int .i64 x.f1, .int .i64 x.f2, .int .i64 x.f3] := by
  obtain ⟨_, _, rfl, rfl, ⟨_, _, rfl, rfl, ⟨_, _, rfl, rfl, rfl⟩⟩⟩ := h
  exact rfl
theorem k32_mkM (w : World) (base : Nat) (ok : Nat → Prop) (x : S32)  : k32.M w base ok x [.int .i64 x.f0, .int .i64 x.f1, .int .i64 x.f2, .int .i64 x.f3] := ⟨[.int .i64 x.f0], [.int .i64 x.f1, .int .i64 x.f2, .int .i64 x.f3], rfl, rfl, ⟨[.int .i64 x.f1], [.int .i64 x.f2, .int .i64 x.f3], rfl, rfl, ⟨[.int .i64 x.f2], [.int .i64 x.f3], rfl, rfl, rfl⟩⟩⟩
def rd_T32 (xs : List S32) (i : Int) : S32 := xs.getD i.toNat z32
theorem at_T32 {w : World} {A : Option Addr} {n : Nat} {xs : List S32} (h : Kd.C k32 w A n xs) (i : Int) (h0 : 0 ≤ i) (h1 : i < n) : ∃ ad , A = some ad ∧ w.cell? (ad.add (i.toNat * 4)) = some (.int .i64 (rd_T32 xs i).f0) ∧ w.cell? ⟨(ad.add (i.toNat * 4)).block, (ad.add (i.toNat * 4)).off + 1, none⟩ = some (.int .i64 (rd_T32 xs i).f1) ∧ w.cell? ⟨(ad.add (i.toNat * 4)).block, (ad.add (i.toNat * 4)).off + 2, none⟩ = some (.int .i64 (rd_T32 xs i).f2) ∧ w.cell? ⟨(ad.add (i.toNat * 4)).block, (ad.add (i.toNat * 4)).off + 3, none⟩ = some (.int .i64 (rd_T32 xs i).f3) := by
  obtain ⟨ad, c, e, _, hK, hc0⟩ := Kd.C_get h z32 i h0 h1
  have hc : ∀ j u, c[j]? = some u → w.cell? (ad.add (i.toNat * 4 + j)) = some u := hc0
  obtain rfl := k32_open hK
  exact ⟨ad, e, hc 0 _ rfl, by rw [← add_field _ _ 1 (by omega)]; exact hc 1 _ rfl, by rw [← add_field _ _ 2 (by omega)]; exact hc 2 _ rfl, by rw [← add_field _ _ 3 (by omega)]; exact hc 3 _ rfl⟩

end Go.Proofs.Ytmcfhmflncghiaa.Q
namespace Go.Proofs.Ytmcfhmflncghiaa.Q
open Go.RowKit Go.Proofs.YtmcfhmflncghiaaW.PrintWords Go.Proofs.YtmcfhmflncghiaaW.PrintLast Go.Proofs.YtmcfhmflncghiaaW.PrintMore
attribute [local go_sem] max2_int min2_int max_two min_two max_three min_three max_four min_four
set_option linter.unusedVariables false
set_option linter.unusedSimpArgs false

/-- A state of type 61 at block g of W; what its slices lead to came in by w0. -/
def IsS61 (w0 W : World) (g : Nat) (f0 : List Int) (f1 : Int) : Prop := ∃ A0 c0, W.heap[g]? = some (.cells #[.slice A0 f0.length c0, .int .i64 f1] 61 (0, 0)) ∧ w0.heap.size ≤ g ∧ Kd.C (Kd.int .u8) w0 A0 f0.length f0
theorem IsS61.grown {w0 W : World} {g : Nat} {f0 : List Int} {f1 : Int} {W1 : World} {row : Option Nat} (h : IsS61 w0 W g f0 f1) (hw : W.grownBy W1 row) (hne : some g ≠ row) : IsS61 w0 W1 g f0 f1 := by
  obtain ⟨A0, c0, hb, hg, hr0⟩ := h
  exact ⟨A0, c0, blk_grown hb hw hne, hg, hr0⟩
theorem IsS61.below {w0 W : World} {g : Nat} {f0 : List Int} {f1 : Int} {W1 : World} (h : IsS61 w0 W g f0 f1) (hw : Below W.heap.size W W1) : IsS61 w0 W1 g f0 f1 := h.grown (grown_of_below hw none) (by simp)
theorem IsS61.alloc {w0 W : World} {g : Nat} {f0 : List Int} {f1 : Int} (h : IsS61 w0 W g f0 f1) (o : Obj) : IsS61 w0 (W.alloc o) g f0 f1 := h.below (below_alloc (Below.refl _ _) o)
theorem IsS61.drewN {w0 W : World} {g : Nat} {f0 : List Int} {f1 : Int} (h : IsS61 w0 W g f0 f1) (m : Nat) : IsS61 w0 (W.drewN m) g f0 f1 := h
theorem IsS61.drew {w0 W : World} {g : Nat} {f0 : List Int} {f1 : Int} (h : IsS61 w0 W g f0 f1) : IsS61 w0 W.drew g f0 f1 := h
theorem IsS61.apart {w0 W : World} {g : Nat} {f0 : List Int} {f1 : Int} {α : Type} {d : Kd α} {e : Nat} {base : Nat} {ok : Nat → Prop} {v : Value} {xs : List α} (h : IsS61 w0 W g f0 f1) (ho : d.R e W base ok v xs) (ht : ∀ q, q ∈ e :: d.E → q ≠ 61) : d.R e W base (fun k => ok k ∧ k ≠ g) v xs := by
  obtain ⟨A0, c0, hb, hg, hr0⟩ := h
  exact Kd.R_types ho hb ht
theorem IsS61.own_ne {w0 W : World} {g : Nat} {f0 : List Int} {f1 : Int} {α : Type} {d : Kd α} {e : Nat} {base : Nat} {ok : Nat → Prop} {v : Value} {xs : List α} (h : IsS61 w0 W g f0 f1) (ho : d.R e W base ok v xs) (ht : e ≠ 61) : some g ≠ v.ownBlock := by
  obtain ⟨A0, c0, hb, hg, hr0⟩ := h
  exact Kd.R_ne ho hb ht
theorem IsS61.lt {w0 W : World} {g : Nat} {f0 : List Int} {f1 : Int} (h : IsS61 w0 W g f0 f1) : g < W.heap.size := by
  obtain ⟨A0, c0, hb, hg, hr0⟩ := h
  exact blk_lt hb
theorem IsS61.ge {w0 W : World} {g : Nat} {f0 : List Int} {f1 : Int} (h : IsS61 w0 W g f0 f1) : w0.heap.size ≤ g := by
  obtain ⟨A0, c0, hb, hg, hr0⟩ := h
  exact hg
theorem IsS61.far {w0 W : World} {g : Nat} {f0 : List Int} {f1 : Int} {p : Addr} (h : IsS61 w0 W g f0 f1) (hne : g ≠ p.block) (u : Value) : IsS61 w0 (W.setCell p u) g f0 f1 := by
  obtain ⟨A0, c0, hb, hg, hr0⟩ := h
  exact ⟨A0, c0, blk_far hb hne u, hg, hr0⟩
theorem cellS61_0 {W : World} {g : Nat} {A0 : Option Addr} {c0 : Nat} {f0 : List Int} {f1 : Int} (h : W.heap[g]? = some (.cells #[.slice A0 f0.length c0, .int .i64 f1] 61 (0, 0))) : W.cell? ⟨g, 0, none⟩ = some (.slice A0 f0.length c0) := (blk_cell h 0).trans rfl
theorem cellS61_1 {W : World} {g : Nat} {A0 : Option Addr} {c0 : Nat} {f0 : List Int} {f1 : Int} (h : W.heap[g]? = some (.cells #[.slice A0 f0.length c0, .int .i64 f1] 61 (0, 0))) : W.cell? ⟨g, 1, none⟩ = some (.int .i64 f1) := (blk_cell h 1).trans rfl
theorem IsS61.set_1 {w0 W : World} {g : Nat} {f0 : List Int} {f1 : Int} (h : IsS61 w0 W g f0 f1) (x : Int) : IsS61 w0 (W.setCell ⟨g, 1, none⟩ (.int .i64 x)) g f0 x := by
  obtain ⟨A0, c0, hb, hg, hr0⟩ := h
  exact ⟨A0, c0, by simpa using blk_set hb 1 (.int .i64 x), hg, hr0⟩
/-! ### spec_l6Rd_pick: function 36 -/
def spec_l6Rd_pick.j0 : Nat → Int → Bool → List Int → Int → Option (Int × Int)
  | 0, _, _, _, _ => none
  | k + 1, x1, x24, x1000, x1001 => if x24 = true then (some (0, x1001)) else (if (wrap64 (x1001 - 1)) < (x1000.length : Int) then (if 0 ≤ (wrap64 (x1001 - 1)) then (if x1 = 0 then (none) else (some (Int.tmod (wrap64 (rd x1000 (wrap64 (x1001 - 1)))) x1, x1001))) else (none)) else (if (x1000.length : Int) = 0 then (none) else (if 0 ≤ (Int.tmod (wrap64 (x1001 - 1)) (x1000.length : Int)) then (if (Int.tmod (wrap64 (x1001 - 1)) (x1000.length : Int)) < (x1000.length : Int) then (if 0 ≤ (Int.tmod (wrap64 ((wrap64 ((wrap64 (x1001 - 1)) * 7)) + 3)) (x1000.length : Int)) then (if (Int.tmod (wrap64 ((wrap64 ((wrap64 (x1001 - 1)) * 7)) + 3)) (x1000.length : Int)) < (x1000.length : Int) then (if x1 = 0 then (none) else (some (Int.tmod (Go.bits .xor .i64 (wrap64 ((wrap64 ((wrap64 ((wrap64 ((wrap64 (rd x1000 (Int.tmod (wrap64 (x1001 - 1)) (x1000.length : Int)))) * 131)) + (wrap64 ((wrap64 (rd x1000 (Int.tmod (wrap64 ((wrap64 ((wrap64 (x1001 - 1)) * 7)) + 3)) (x1000.length : Int)))) * 1117)))) + (wrap64 ((wrap64 (x1001 - 1)) * 29)))) + (wrap64 ((wrap64 (Int.tdiv (wrap64 (x1001 - 1)) (x1000.length : Int))) * 53)))) (wrap64 (Int.tdiv (wrap64 ((wrap64 ((wrap64 ((wrap64 ((wrap64 (rd x1000 (Int.tmod (wrap64 (x1001 - 1)) (x1000.length : Int)))) * 131)) + (wrap64 ((wrap64 (rd x1000 (Int.tmod (wrap64 ((wrap64 ((wrap64 (x1001 - 1)) * 7)) + 3)) (x1000.length : Int)))) * 1117)))) + (wrap64 ((wrap64 (x1001 - 1)) * 29)))) + (wrap64 ((wrap64 (Int.tdiv (wrap64 (x1001 - 1)) (x1000.length : Int))) * 53)))) 64))) x1, x1001))) else (none)) else (none)) else (none)) else (none))))
def spec_l6Rd_pick.f (k : Nat) (s0_0 : List Int) (s0_1 : Int) (a1 : Int) : Option (Int × Int) := if a1 < 1 then (spec_l6Rd_pick.j0 k a1 true s0_0 (wrap64 (s0_1 + 1))) else (spec_l6Rd_pick.j0 k a1 ((s0_0.length : Int) == 0) s0_0 (wrap64 (s0_1 + 1)))
set_option maxHeartbeats 8000000 in
set_option maxRecDepth 100000 in
theorem spec_l6Rd_pick.calls (k : Nat) (g : Nat) (s0_0 : List Int) (s0_1 : Int) (a1 : Int) (r1 : Int) (r2 : Int) (w0 w : World) (hI : IsS61 w0 w g s0_0 s0_1) (hB : Below w0.heap.size w0 w) (h : spec_l6Rd_pick.f k s0_0 s0_1 a1 = some (r1, r2)) :
    Calls Try.prog 36 #[.pointer (some ⟨g, 0, none⟩), .int .i64 a1] w fun e w' => e = .returned (.int .i64 r1) ∧ IsS61 w0 w' g s0_0 r2 ∧ Below w0.heap.size w0 w' ∧ KeepBut w w' g none := by
  have HI0 := Aside0.mk hI
  have HK := Aside0.mk (KeepBut.refl w g none)
  have HL := Aside0.mk hB.size
  clear hI
  have HW0 := Aside0.mk hB.size
  have HB := Aside0.mk hB
  clear hB
  have H : (if a1 < 1 then (spec_l6Rd_pick.j0 k a1 true s0_0 (wrap64 (s0_1 + 1))) else (spec_l6Rd_pick.j0 k a1 ((s0_0.length : Int) == 0) s0_0 (wrap64 (s0_1 + 1)))) = some (r1, r2) := h
  clear h
  have HC3 := Aside0.mk H
  clear H
  obtain ⟨ASz4_0, cSz4_0, HGz4, hgz4, HSz4_0⟩ := HI0.out
  have hcz4_0 := cellS61_0 HGz4
  have hcz4_1 := cellS61_1 HGz4
  have hfz4_1 := blk_frozen HGz4 1
  clear HGz4 hgz4
  go_enter Try.func36, Try.ntmps36
  go_upto_region 2 with (fail)
  repeat (go_quiet (fail); go_upto_region 2 with (fail))
  go_cut [24] (fun v24 wc => ∃ (kq : Nat) (x24_2 : Bool), v24 = .bool x24_2 ∧ Aside0 (spec_l6Rd_pick.j0 kq a1 x24_2 s0_0 (wrap64 (s0_1 + 1)) = some (r1, r2)) ∧ Aside0 (kq ≤ k) ∧ Aside0 (IsS61 w0 wc g s0_0 (wrap64 (s0_1 + 1))) ∧ Aside0 (KeepBut w wc g none) ∧ Aside0 (Below w0.heap.size w0 wc))
  case first =>
    have H := HC3.out
    clear HC3
    by_cases c5 : a1 < 1
    · rw [if_pos c5] at H
      have c5b0 : decide (a1 < 1) = true := decide_eq_true c5
      clear c5
      (first | rw [c5b0] | (simp only [i64_w, i32_w]; rw [c5b0]) | skip)
      have H' := Aside0.mk H
      clear H
      go_wp2
      repeat (go_quiet (fail); try go_wp2)
      go_meet
      case rel => exact ⟨_, (true), qq14, H', ⟨qq46⟩, ⟨qq9⟩, ⟨qq6⟩, ⟨qq8⟩⟩
    · rw [if_neg c5] at H
      have c5b0 : decide (a1 < 1) = false := decide_eq_false c5
      clear c5
      (first | rw [c5b0] | (simp only [i64_w, i32_w]; rw [c5b0]) | skip)
      have H' := Aside0.mk H
      clear H
      obtain ⟨ASz6_0, cSz6_0, HGz6, hgz6, HSz6_0⟩ := HI0.out
      have hcz6_0 := cellS61_0 HGz6
      have hcz6_1 := cellS61_1 HGz6
      have hfz6_1 := blk_frozen HGz6 1
      clear HGz6 hgz6
      go_wp2
      repeat (go_quiet (fail); try go_wp2)
      go_meet
      case rel => exact ⟨_, (((s0_0.length : Int) == 0)), qq14, H', ⟨qq46⟩, ⟨qq9⟩, ⟨qq6⟩, ⟨qq8⟩⟩
  case rest =>
    clear HC3
    try clear p2
    try clear c3
    try clear c5
    try clear c5b0
    try clear p6
    try clear hcz4_0
    try clear hcz4_1
    try clear hcz6_0
    try clear hcz6_1
    try clear hfz4_1
    try clear hfz6_1
    obtain ⟨kq, x24_2, rfl, HA, HJ2, HI0, HK, HB⟩ := hcut
    cases kq with
    | zero => exact absurd HA.out (by simp [spec_l6Rd_pick.j0])
    | succ kj2 =>
      have H := HA.out
      clear HA
      simp only [spec_l6Rd_pick.j0] at H
      by_cases c7 : x24_2 = true
      · subst c7
        have H1 : (some (0, (wrap64 (s0_1 + 1)))) = some (r1, r2) := by rw [if_pos rfl] at H; exact H
        clear H
        have H := H1
        clear H1
        simp only [Option.some.injEq, Prod.mk.injEq] at H
        obtain ⟨rfl, rfl⟩ := H
        go_wp2
        repeat (go_quiet (fail); try go_wp2)
        go_ret
        exact ⟨qq11, qq9, qq8, qq6⟩
      · replace c7 := Bool.eq_false_iff.mpr c7
        subst c7
        have H1 : (if (wrap64 ((wrap64 (s0_1 + 1)) - 1)) < (s0_0.length : Int) then (if 0 ≤ (wrap64 ((wrap64 (s0_1 + 1)) - 1)) then (if a1 = 0 then (none) else (some (Int.tmod (wrap64 (rd s0_0 (wrap64 ((wrap64 (s0_1 + 1)) - 1)))) a1, (wrap64 (s0_1 + 1))))) else (none)) else (if (s0_0.length : Int) = 0 then (none) else (if 0 ≤ (Int.tmod (wrap64 ((wrap64 (s0_1 + 1)) - 1)) (s0_0.length : Int)) then (if (Int.tmod (wrap64 ((wrap64 (s0_1 + 1)) - 1)) (s0_0.length : Int)) < (s0_0.length : Int) then (if 0 ≤ (Int.tmod (wrap64 ((wrap64 ((wrap64 ((wrap64 (s0_1 + 1)) - 1)) * 7)) + 3)) (s0_0.length : Int)) then (if (Int.tmod (wrap64 ((wrap64 ((wrap64 ((wrap64 (s0_1 + 1)) - 1)) * 7)) + 3)) (s0_0.length : Int)) < (s0_0.length : Int) then (if a1 = 0 then (none) else (some (Int.tmod (Go.bits .xor .i64 (wrap64 ((wrap64 ((wrap64 ((wrap64 ((wrap64 (rd s0_0 (Int.tmod (wrap64 ((wrap64 (s0_1 + 1)) - 1)) (s0_0.length : Int)))) * 131)) + (wrap64 ((wrap64 (rd s0_0 (Int.tmod (wrap64 ((wrap64 ((wrap64 ((wrap64 (s0_1 + 1)) - 1)) * 7)) + 3)) (s0_0.length : Int)))) * 1117)))) + (wrap64 ((wrap64 ((wrap64 (s0_1 + 1)) - 1)) * 29)))) + (wrap64 ((wrap64 (Int.tdiv (wrap64 ((wrap64 (s0_1 + 1)) - 1)) (s0_0.length : Int))) * 53)))) (wrap64 (Int.tdiv (wrap64 ((wrap64 ((wrap64 ((wrap64 ((wrap64 (rd s0_0 (Int.tmod (wrap64 ((wrap64 (s0_1 + 1)) - 1)) (s0_0.length : Int)))) * 131)) + (wrap64 ((wrap64 (rd s0_0 (Int.tmod (wrap64 ((wrap64 ((wrap64 ((wrap64 (s0_1 + 1)) - 1)) * 7)) + 3)) (s0_0.length : Int)))) * 1117)))) + (wrap64 ((wrap64 ((wrap64 (s0_1 + 1)) - 1)) * 29)))) + (wrap64 ((wrap64 (Int.tdiv (wrap64 ((wrap64 (s0_1 + 1)) - 1)) (s0_0.length : Int))) * 53)))) 64))) a1, (wrap64 (s0_1 + 1))))) else (none)) else (none)) else (none)) else (none)))) = some (r1, r2) := by rw [if_neg (show ¬ (false = true) by decide)] at H; exact H
        clear H
        have H := H1
        clear H1
        by_cases c8 : (wrap64 ((wrap64 (s0_1 + 1)) - 1)) < (s0_0.length : Int)
        · rw [if_pos c8] at H
          have c8b0 : decide ((wrap64 ((wrap64 (s0_1 + 1)) - 1)) < (s0_0.length : Int)) = true := decide_eq_true c8
          clear c8
          obtain ⟨ji9, hji9⟩ : ∃ j_ : Int, (wrap64 ((wrap64 (s0_1 + 1)) - 1)) = j_ := ⟨_, rfl⟩
          replace H : (if 0 ≤ (ji9) then (if a1 = 0 then (none) else (some (Int.tmod (wrap64 (rd s0_0 (ji9))) a1, (wrap64 (s0_1 + 1))))) else (none)) = some (r1, r2) := by first | (rw [hji9] at H; exact H) | (simp only [hji9] at H ⊢; exact H)
          (try rw [hji9] at c8b0)
          have hji9w : (IntKind.i64.wrap ((wrap64 (s0_1 + 1)) - 1)) = ji9 := (i64_w _).trans hji9
          by_cases c10 : 0 ≤ (ji9)
          · rw [if_pos c10] at H
            have c10b0 : decide (0 ≤ (ji9)) = true := decide_eq_true c10
            clear c10
            by_cases c11 : a1 = 0
            · rw [if_pos c11] at H
              exact absurd H (by simp)
            · rw [if_neg c11] at H
              have c11b0 : (a1 == 0) = false := beq_eq_false_iff_ne.mpr c11
              have c11b1 : (a1 != 0) = true := bne_iff_ne.mpr c11
              simp only [Option.some.injEq, Prod.mk.injEq] at H
              obtain ⟨rfl, rfl⟩ := H
              obtain ⟨ASz12_0, cSz12_0, HGz12, hgz12, HSz12_0⟩ := HI0.out
              have hcz12_0 := cellS61_0 HGz12
              have hcz12_1 := cellS61_1 HGz12
              have hfz12_1 := blk_frozen HGz12 1
              clear HGz12 hgz12
              have p101 : 0 ≤ ((ji9) : Int) := of_decide_eq_true qq3
              have q101 : (ji9) < (s0_0.length : Int) := of_decide_eq_true qq3
              obtain ⟨ad101, e101, hx101_0⟩ := Kd.at_int HSz12_0 (ji9) p101 q101
              cases e101
              replace hx101_0 := pw_cell_below HB.out hx101_0
              replace p101 := eq_true p101
              replace q101 := eq_true q101
              go_wp2
              repeat (go_quiet (fail); try go_wp2)
              go_ret
              exact ⟨by first | rfl | (simp [errW_none, errW_some] <;> rfl) | (simp only [← hji9]; first | rfl | (simp [errW_none, errW_some] <;> rfl)) | (simp [*, errW_none, errW_some] <;> rfl), qq9, qq8, qq6⟩
          · rw [if_neg c10] at H
            exact absurd H (by simp)
        · rw [if_neg c8] at H
          have c8b0 : decide ((wrap64 ((wrap64 (s0_1 + 1)) - 1)) < (s0_0.length : Int)) = false := decide_eq_false c8
          clear c8
          by_cases c13 : (s0_0.length : Int) = 0
          · rw [if_pos c13] at H
            exact absurd H (by simp)
          · rw [if_neg c13] at H
            have c13b0 : ((s0_0.length : Int) == 0) = false := beq_eq_false_iff_ne.mpr c13
            have c13b1 : ((s0_0.length : Int) != 0) = true := bne_iff_ne.mpr c13
            have c13b2 : ¬ (s0_0 = []) := fun h_ => c13 (by rw [h_]; rfl)
            obtain ⟨ji14, hji14⟩ : ∃ j_ : Int, (Int.tmod (wrap64 ((wrap64 (s0_1 + 1)) - 1)) (s0_0.length : Int)) = j_ := ⟨_, rfl⟩
            replace H : (if 0 ≤ (ji14) then (if (ji14) < (s0_0.length : Int) then (if 0 ≤ (Int.tmod (wrap64 ((wrap64 ((wrap64 ((wrap64 (s0_1 + 1)) - 1)) * 7)) + 3)) (s0_0.length : Int)) then (if (Int.tmod (wrap64 ((wrap64 ((wrap64 ((wrap64 (s0_1 + 1)) - 1)) * 7)) + 3)) (s0_0.length : Int)) < (s0_0.length : Int) then (if a1 = 0 then (none) else (some (Int.tmod (Go.bits .xor .i64 (wrap64 ((wrap64 ((wrap64 ((wrap64 ((wrap64 (rd s0_0 (ji14))) * 131)) + (wrap64 ((wrap64 (rd s0_0 (Int.tmod (wrap64 ((wrap64 ((wrap64 ((wrap64 (s0_1 + 1)) - 1)) * 7)) + 3)) (s0_0.length : Int)))) * 1117)))) + (wrap64 ((wrap64 ((wrap64 (s0_1 + 1)) - 1)) * 29)))) + (wrap64 ((wrap64 (Int.tdiv (wrap64 ((wrap64 (s0_1 + 1)) - 1)) (s0_0.length : Int))) * 53)))) (wrap64 (Int.tdiv (wrap64 ((wrap64 ((wrap64 ((wrap64 ((wrap64 (rd s0_0 (ji14))) * 131)) + (wrap64 ((wrap64 (rd s0_0 (Int.tmod (wrap64 ((wrap64 ((wrap64 ((wrap64 (s0_1 + 1)) - 1)) * 7)) + 3)) (s0_0.length : Int)))) * 1117)))) + (wrap64 ((wrap64 ((wrap64 (s0_1 + 1)) - 1)) * 29)))) + (wrap64 ((wrap64 (Int.tdiv (wrap64 ((wrap64 (s0_1 + 1)) - 1)) (s0_0.length : Int))) * 53)))) 64))) a1, (wrap64 (s0_1 + 1))))) else (none)) else (none)) else (none)) else (none)) = some (r1, r2) := by first | (rw [hji14] at H; exact H) | (simp only [hji14] at H ⊢; exact H)
            by_cases c15 : 0 ≤ (ji14)
            · rw [if_pos c15] at H
              have c15b0 : decide (0 ≤ (ji14)) = true := decide_eq_true c15
              clear c15
              by_cases c16 : (ji14) < (s0_0.length : Int)
              · rw [if_pos c16] at H
                have c16b0 : decide ((ji14) < (s0_0.length : Int)) = true := decide_eq_true c16
                clear c16
                obtain ⟨ji17, hji17⟩ : ∃ j_ : Int, (Int.tmod (wrap64 ((wrap64 ((wrap64 ((wrap64 (s0_1 + 1)) - 1)) * 7)) + 3)) (s0_0.length : Int)) = j_ := ⟨_, rfl⟩
                replace H : (if 0 ≤ (ji17) then (if (ji17) < (s0_0.length : Int) then (if a1 = 0 then (none) else (some (Int.tmod (Go.bits .xor .i64 (wrap64 ((wrap64 ((wrap64 ((wrap64 ((wrap64 (rd s0_0 (ji14))) * 131)) + (wrap64 ((wrap64 (rd s0_0 (ji17))) * 1117)))) + (wrap64 ((wrap64 ((wrap64 (s0_1 + 1)) - 1)) * 29)))) + (wrap64 ((wrap64 (Int.tdiv (wrap64 ((wrap64 (s0_1 + 1)) - 1)) (s0_0.length : Int))) * 53)))) (wrap64 (Int.tdiv (wrap64 ((wrap64 ((wrap64 ((wrap64 ((wrap64 (rd s0_0 (ji14))) * 131)) + (wrap64 ((wrap64 (rd s0_0 (ji17))) * 1117)))) + (wrap64 ((wrap64 ((wrap64 (s0_1 + 1)) - 1)) * 29)))) + (wrap64 ((wrap64 (Int.tdiv (wrap64 ((wrap64 (s0_1 + 1)) - 1)) (s0_0.length : Int))) * 53)))) 64))) a1, (wrap64 (s0_1 + 1))))) else (none)) else (none)) = some (r1, r2) := by first | (rw [hji17] at H; exact H) | (simp only [hji17] at H ⊢; exact H)
                by_cases c18 : 0 ≤ (ji17)
                · rw [if_pos c18] at H
                  have c18b0 : decide (0 ≤ (ji17)) = true := decide_eq_true c18
                  clear c18
                  by_cases c19 : (ji17) < (s0_0.length : Int)
                  · rw [if_pos c19] at H
                    have c19b0 : decide ((ji17) < (s0_0.length : Int)) = true := decide_eq_true c19
                    clear c19
                    by_cases c20 : a1 = 0
                    · rw [if_pos c20] at H
                      exact absurd H (by simp)
                    · rw [if_neg c20] at H
                      have c20b0 : (a1 == 0) = false := beq_eq_false_iff_ne.mpr c20
                      have c20b1 : (a1 != 0) = true := bne_iff_ne.mpr c20
                      simp only [Option.some.injEq, Prod.mk.injEq] at H
                      obtain ⟨rfl, rfl⟩ := H
                      obtain ⟨ASz21_0, cSz21_0, HGz21, hgz21, HSz21_0⟩ := HI0.out
                      have hcz21_0 := cellS61_0 HGz21
                      have hcz21_1 := cellS61_1 HGz21
                      have hfz21_1 := blk_frozen HGz21 1
                      clear HGz21 hgz21
                      have p102 : 0 ≤ ((ji14) : Int) := of_decide_eq_true qq3
                      have q102 : (ji14) < (s0_0.length : Int) := of_decide_eq_true qq3
                      obtain ⟨ad102, e102, hx102_0⟩ := Kd.at_int HSz21_0 (ji14) p102 q102
                      cases e102
                      replace hx102_0 := pw_cell_below HB.out hx102_0
                      replace p102 := eq_true p102
                      replace q102 := eq_true q102
                      have p103 : 0 ≤ ((ji17) : Int) := of_decide_eq_true qq3
                      have q103 : (ji17) < (s0_0.length : Int) := of_decide_eq_true qq3
                      obtain ⟨ad103, e103, hx103_0⟩ := Kd.at_int HSz21_0 (ji17) p103 q103
                      obtain rfl : ad102 = ad103 := (by injection e103)
                      replace hx103_0 := pw_cell_below HB.out hx103_0
                      replace p103 := eq_true p103
                      replace q103 := eq_true q103
                      go_wp2
                      repeat (go_quiet (fail); try go_wp2)
                      go_ret
                      exact ⟨by first | rfl | (simp [errW_none, errW_some] <;> rfl) | (simp only [← hji14, ← hji17]; first | rfl | (simp [errW_none, errW_some] <;> rfl)) | (simp [*, errW_none, errW_some] <;> rfl), qq9, qq8, qq6⟩
                  · rw [if_neg c19] at H
                    exact absurd H (by simp)
                · rw [if_neg c18] at H
                  exact absurd H (by simp)
              · rw [if_neg c16] at H
                exact absurd H (by simp)
            · rw [if_neg c15] at H
              exact absurd H (by simp)

end Go.Proofs.Ytmcfhmflncghiaa.Q
namespace Go.Proofs.Ytmcfhmflncghiaa.Q
open Go.RowKit Go.Proofs.YtmcfhmflncghiaaW.PrintWords Go.Proofs.YtmcfhmflncghiaaW.PrintLast Go.Proofs.YtmcfhmflncghiaaW.PrintMore
attribute [local go_sem] max2_int min2_int max_two min_two max_three min_three max_four min_four
set_option linter.unusedVariables false
set_option linter.unusedSimpArgs false

/-! ### spec_l91Net: function 44 -/
mutual
def spec_l91Net.l0 : Nat → Int → List (S32) → Int → List Int → Int → Option (Int × (List (S32)) × Int)
  | 0, _, _, _, _, _ => none
  | k + 1, x6, x7, x8, x1000, x1001 => if x8 < x6 then ((spec_l6Rd_pick.f k x1000 x1001 12).bind fun bt109 => (if bt109.1 > 0 then ((spec_l6Rd_pick.f k x1000 bt109.2 x8).bind fun bt111 => ((spec_l6Rd_pick.f k x1000 bt111.2 61).bind fun bt113 => ((spec_l6Rd_pick.f k x1000 bt113.2 4).bind fun bt115 => (if x7.length < 4398046511104 then (spec_l91Net.l0 k x6 (x7 ++ [(⟨bt111.1, x8, wrap64 (bt113.1 - 30), wrap64 (1 + bt115.1)⟩ : S32)]) (wrap64 (x8 + 1)) x1000 bt115.2) else (none))))) else (spec_l91Net.l0 k x6 x7 (wrap64 (x8 + 1)) x1000 bt109.2))) else ((spec_l6Rd_pick.f k x1000 x1001 4).bind fun bt120 => (spec_l91Net.l1 k x6 x7 bt120.1 0 x1000 bt120.2))
def spec_l91Net.l1 : Nat → Int → List (S32) → Int → Int → List Int → Int → Option (Int × (List (S32)) × Int)
  | 0, _, _, _, _, _, _ => none
  | k + 1, x6, x7, x9, x10, x1000, x1001 => if x10 < x9 then ((spec_l6Rd_pick.f k x1000 x1001 x6).bind fun bt122 => ((spec_l6Rd_pick.f k x1000 bt122.2 (wrap64 (x6 - 1))).bind fun bt124 => (if x6 = 0 then (none) else ((spec_l6Rd_pick.f k x1000 bt124.2 61).bind fun bt126 => ((spec_l6Rd_pick.f k x1000 bt126.2 4).bind fun bt128 => (if x7.length < 4398046511104 then (spec_l91Net.l1 k x6 (x7 ++ [(⟨bt122.1, Int.tmod (wrap64 ((wrap64 (bt122.1 + 1)) + bt124.1)) x6, wrap64 (bt126.1 - 30), wrap64 (1 + bt128.1)⟩ : S32)]) x9 (wrap64 (x10 + 1)) x1000 bt128.2) else (none))))))) else (spec_l91Net.l2 k x6 x7 0 x1000 x1001)
def spec_l91Net.l2 : Nat → Int → List (S32) → Int → List Int → Int → Option (Int × (List (S32)) × Int)
  | 0, _, _, _, _, _ => none
  | k + 1, x6, x7, x13, x1000, x1001 => if x13 < (x7.length : Int) then ((spec_l6Rd_pick.f k x1000 x1001 3).bind fun bt133 => (if bt133.1 = 0 then (if 0 ≤ x13 then (spec_l91Net.l2 k x6 (x7.set (x13 : Int).toNat (⟨(rd_T32 x7 x13).f1, (rd_T32 x7 x13).f0, wrap64 (-((rd_T32 x7 x13).f2)), (rd_T32 x7 x13).f3⟩ : S32)) (wrap64 (x13 + 1)) x1000 bt133.2) else (none)) else (spec_l91Net.l2 k x6 x7 (wrap64 (x13 + 1)) x1000 bt133.2))) else (if (x7.length : Int) > 1 then ((spec_l6Rd_pick.f k x1000 x1001 (x7.length : Int)).bind fun bt138 => (if 0 < (x7.length : Int) then (if 0 ≤ bt138.1 then (if bt138.1 < (x7.length : Int) then (spec_l91Net.j3 k x6 ((x7.set (0 : Int).toNat (⟨(rd_T32 x7 bt138.1).f0, (rd_T32 x7 bt138.1).f1, (rd_T32 x7 bt138.1).f2, (rd_T32 x7 bt138.1).f3⟩ : S32)).set (bt138.1 : Int).toNat (⟨(rd_T32 x7 0).f0, (rd_T32 x7 0).f1, (rd_T32 x7 0).f2, (rd_T32 x7 0).f3⟩ : S32)) x1000 bt138.2) else (none)) else (none)) else (none))) else (spec_l91Net.j3 k x6 x7 x1000 x1001))
def spec_l91Net.j3 : Nat → Int → List (S32) → List Int → Int → Option (Int × (List (S32)) × Int)
  | 0, _, _, _, _ => none
  | k + 1, x6, x7, x1000, x1001 => if (x7.length : Int) > 0 then ((spec_l6Rd_pick.f k x1000 x1001 50).bind fun bt145 => (if bt145.1 = 0 then (if 0 < (x7.length : Int) then (some (x6, (x7.set (0 : Int).toNat (⟨(rd_T32 x7 0).f0, (rd_T32 x7 0).f0, (rd_T32 x7 0).f2, (rd_T32 x7 0).f3⟩ : S32)), bt145.2)) else (none)) else (if bt145.1 = 1 then ((some (([0, 10] : List Int) : List Int)).bind fun y149 => ((spec_l6Rd_pick.f k x1000 bt145.2 2).bind fun bt152 => (if 0 ≤ bt152.1 then (if bt152.1 < (y149.length : Int) then (if 0 < (x7.length : Int) then (some (x6, (x7.set (0 : Int).toNat (⟨(rd_T32 x7 0).f0, (rd_T32 x7 0).f1, (rd_T32 x7 0).f2, rd y149 bt152.1⟩ : S32)), bt152.2)) else (none)) else (none)) else (none)))) else (if bt145.1 = 2 then (if 0 < (x7.length : Int) then (some (x6, (x7.set (0 : Int).toNat (⟨(rd_T32 x7 0).f0, (rd_T32 x7 0).f1, 100001, (rd_T32 x7 0).f3⟩ : S32)), bt145.2)) else (none)) else (if bt145.1 = 3 then (if 0 < (x7.length : Int) then (some (x6, (x7.set (0 : Int).toNat (⟨(rd_T32 x7 0).f0, x6, (rd_T32 x7 0).f2, (rd_T32 x7 0).f3⟩ : S32)), bt145.2)) else (none)) else (some (x6, x7, bt145.2))))))) else (some (x6, x7, x1001))
end
def spec_l91Net.f (k : Nat) (s0_0 : List Int) (s0_1 : Int) (a1 : Int) : Option (Int × (List (S32)) × Int) := (spec_l6Rd_pick.f k s0_0 s0_1 (wrap64 (a1 - 1))).bind fun bt104 => (spec_l91Net.l0 k (wrap64 (2 + bt104.1)) (([] : List (S32))) 1 s0_0 bt104.2)
set_option maxHeartbeats 8000000 in
set_option maxRecDepth 100000 in
theorem spec_l91Net.calls (k : Nat) (g : Nat) (s0_0 : List Int) (s0_1 : Int) (a1 : Int) (r1 : Int) (r2 : List (S32)) (r3 : Int) (w0 w : World) (hI : IsS61 w0 w g s0_0 s0_1) (hB : Below w0.heap.size w0 w) (h : spec_l91Net.f k s0_0 s0_1 a1 = some (r1, r2, r3)) :
    Calls Try.prog 44 #[.pointer (some ⟨g, 0, none⟩), .int .i64 a1] w fun e w' => ∃ v1_ : Value, e = .returned (.tuple #[.int .i64 r1, v1_]) ∧ Kd.R k32 32 w' w.heap.size (fun _ => True) v1_ r2 ∧ IsS61 w0 w' g s0_0 r3 ∧ Below w0.heap.size w0 w' ∧ KeepBut w w' g none := by
  have hu32 := Try.underlying32
  have HI0 := Aside0.mk hI
  have HK := Aside0.mk (KeepBut.refl w g none)
  have HL := Aside0.mk hB.size
  clear hI
  have HW0 := Aside0.mk hB.size
  have HB := Aside0.mk hB
  clear hB
  have H : ((spec_l6Rd_pick.f k s0_0 s0_1 (wrap64 (a1 - 1))).bind fun bt104 => (spec_l91Net.l0 k (wrap64 (2 + bt104.1)) (([] : List (S32))) 1 s0_0 bt104.2)) = some (r1, r2, r3) := h
  clear h
  replace H := Option.bind_eq_some_iff.mp H
  obtain ⟨⟨t104, t105⟩, A30, H⟩ := H
  replace H : (spec_l91Net.l0 k (wrap64 (2 + t104)) (([] : List (S32))) 1 s0_0 t105) = some (r1, r2, r3) := H
  have A3 := Aside0.mk A30
  clear A30
  obtain ⟨y106, hy106⟩ : ∃ y_ : List (S32), y_ = (([] : List (S32))) := ⟨_, rfl⟩
  replace H : (spec_l91Net.l0 k (wrap64 (2 + t104)) y106 1 s0_0 t105) = some (r1, r2, r3) := by first | (rw [hy106]; with_reducible exact H) | (have H2_ := (Option.bind_some _ _).symm.trans H; rw [hy106]; with_reducible exact H2_) | (have H2_ := (Option.bind_some _ _).symm.trans H; with_reducible exact H2_) | with_reducible exact H | (rw [hy106]; exact H) | exact H
  have Ny106 := Aside0.mk hy106
  clear hy106
  have H' := Aside0.mk H
  clear H
  go_enter Try.func44, Try.ntmps44
  go_wp2_with (first | ((with_reducible refine gate_callee (f := 36) rfl ?_); refine goesL_ (some 20) rfl rfl Try.func36 (by kernel_rfl) rfl #[.pointer (some ⟨g, 0, none⟩), .int .i64 (wrap64 (a1 - 1))] rfl qq5 ?_; (with_reducible refine (spec_l6Rd_pick.calls k g s0_0 s0_1 (wrap64 (a1 - 1)) t104 t105 w0 _ ?side1 ?side2 A3.out).mono ?_); (case side1 => exact qq9); (case side2 => exact qq8); rintro e w4 ⟨rfl, hi, hb, hk⟩; refine ⟨_, rfl, ?_⟩; have n0_ := Aside0.mk (KeepBut.trans qq6 hk (.inl rfl)); have n1_ := Aside0.mk (hb); have n2_ := Aside0.mk (hi); clear HK; clear HB; clear HI0; have HK := n0_; have HB := n1_; have HI0 := n2_; clear n0_ n1_ n2_; (try clear hb); (try clear hb2); (try clear hk); (try clear hi)) | ((with_reducible refine gate_dst (N := 22) rfl ?_); refine Kd.R_lit k32 _ 32 ?hg (N := 22) ?hd (xs := ([] : List (S32))) (inner := []) (ok := fun _ => True) (okp := fun _ => True) ?hr ?hp (fun _ hk => hk) trivial (Below.refl _ _) (Nat.le_refl _) (by simp) ?_; (case hd => rfl); (case hg => rfl); (case hr => exact qq16); (case hp => exact (Reps.none _ _)); intro v107 w5 ho6 hb hg_ hnew_; clear hg_ hnew_; (first | rw [← Ny106.out] at ho6 | (simp only [Int.reduceToNat] at ho6; rw [← Ny106.out] at ho6)); have n0_ := Aside0.mk (Kd.R_lower ho6 (keep_size (w := w) (g := g) (row := none) qq6)); have n1_ := Aside0.mk (IsS61.below qq9 hb); have n2_ := Aside0.mk (KeepBut.trans qq6 (KeepBut.of_below hb g none) (.inl rfl)); have n3_ := Aside0.mk (below_step qq8 hb); clear HI0; clear HK; clear HB; have HO108 := n0_; have HI0 := n1_; have HK := n2_; have HB := n3_; clear n0_ n1_ n2_ n3_; clear hb ho6))
  go_loopg [7, 8] k (fun kq v7 v8 w' => ∃ (x7_1 : List (S32)) (x8_1 : Int) (x1001_1 : Int), v8 = .int .i64 x8_1 ∧ Aside0 (spec_l91Net.l0 kq (wrap64 (2 + t104)) x7_1 x8_1 s0_0 x1001_1 = some (r1, r2, r3)) ∧ Aside0 (kq ≤ k) ∧ Aside0 (Kd.R k32 32 w' w.heap.size (fun _ => True) v7 x7_1) ∧ Aside0 (IsS61 w0 w' g s0_0 x1001_1) ∧ Aside0 (KeepBut w w' g none) ∧ Aside0 (Below w0.heap.size w0 w'))
  case atStart => exact ⟨(y106), (1), (t105), qq14, H', ⟨Nat.le_refl _⟩, ⟨qq2 HO108.out⟩, ⟨qq9⟩, ⟨qq6⟩, ⟨qq8⟩⟩
  case round =>
    clear H'
    try clear p2
    try clear c3
    try clear c4
    try clear p6
    obtain ⟨x7_1, x8_1, x1001_1, rfl, HA, HK1, HO_7, HI0, HK, HB⟩ := hrel
    cases gk with
    | zero => exact absurd HA.out (by simp [spec_l91Net.l0])
    | succ k1 =>
      have H := HA.out
      clear HA
      simp only [spec_l91Net.l0] at H
      by_cases c7 : x8_1 < (wrap64 (2 + t104))
      · rw [if_pos c7] at H
        have c7b0 : decide (x8_1 < (wrap64 (2 + t104))) = true := decide_eq_true c7
        clear c7
        replace H := Option.bind_eq_some_iff.mp H
        obtain ⟨⟨t109, t110⟩, A80, H⟩ := H
        replace H : (if t109 > 0 then ((spec_l6Rd_pick.f k1 s0_0 t110 x8_1).bind fun bt111 => ((spec_l6Rd_pick.f k1 s0_0 bt111.2 61).bind fun bt113 => ((spec_l6Rd_pick.f k1 s0_0 bt113.2 4).bind fun bt115 => (if x7_1.length < 4398046511104 then (spec_l91Net.l0 k1 (wrap64 (2 + t104)) (x7_1 ++ [(⟨bt111.1, x8_1, wrap64 (bt113.1 - 30), wrap64 (1 + bt115.1)⟩ : S32)]) (wrap64 (x8_1 + 1)) s0_0 bt115.2) else (none))))) else (spec_l91Net.l0 k1 (wrap64 (2 + t104)) x7_1 (wrap64 (x8_1 + 1)) s0_0 t110)) = some (r1, r2, r3) := H
        have A8 := Aside0.mk A80
        clear A80
        by_cases c9 : t109 > 0
        · rw [if_pos c9] at H
          have c9b0 : decide (0 < t109) = true := decide_eq_true c9
          clear c9
          replace H := Option.bind_eq_some_iff.mp H
          obtain ⟨⟨t111, t112⟩, A100, H⟩ := H
          replace H : ((spec_l6Rd_pick.f k1 s0_0 t112 61).bind fun bt113 => ((spec_l6Rd_pick.f k1 s0_0 bt113.2 4).bind fun bt115 => (if x7_1.length < 4398046511104 then (spec_l91Net.l0 k1 (wrap64 (2 + t104)) (x7_1 ++ [(⟨t111, x8_1, wrap64 (bt113.1 - 30), wrap64 (1 + bt115.1)⟩ : S32)]) (wrap64 (x8_1 + 1)) s0_0 bt115.2) else (none)))) = some (r1, r2, r3) := H
          have A10 := Aside0.mk A100
          clear A100
          replace H := Option.bind_eq_some_iff.mp H
          obtain ⟨⟨t113, t114⟩, A110, H⟩ := H
          replace H : ((spec_l6Rd_pick.f k1 s0_0 t114 4).bind fun bt115 => (if x7_1.length < 4398046511104 then (spec_l91Net.l0 k1 (wrap64 (2 + t104)) (x7_1 ++ [(⟨t111, x8_1, wrap64 (t113 - 30), wrap64 (1 + bt115.1)⟩ : S32)]) (wrap64 (x8_1 + 1)) s0_0 bt115.2) else (none))) = some (r1, r2, r3) := H
          have A11 := Aside0.mk A110
          clear A110
          replace H := Option.bind_eq_some_iff.mp H
          obtain ⟨⟨t115, t116⟩, A120, H⟩ := H
          replace H : (if x7_1.length < 4398046511104 then (spec_l91Net.l0 k1 (wrap64 (2 + t104)) (x7_1 ++ [(⟨t111, x8_1, wrap64 (t113 - 30), wrap64 (1 + t115)⟩ : S32)]) (wrap64 (x8_1 + 1)) s0_0 t116) else (none)) = some (r1, r2, r3) := H
          have A12 := Aside0.mk A120
          clear A120
          by_cases c13 : x7_1.length < 4398046511104
          · rw [if_pos c13] at H
            have LMc13 := Aside0.mk c13
            clear c13
            obtain ⟨y117, hy117⟩ : ∃ y_ : List (S32), y_ = (x7_1 ++ [(⟨t111, x8_1, wrap64 (t113 - 30), wrap64 (1 + t115)⟩ : S32)]) := ⟨_, rfl⟩
            replace H : (spec_l91Net.l0 k1 (wrap64 (2 + t104)) y117 (wrap64 (x8_1 + 1)) s0_0 t116) = some (r1, r2, r3) := by first | (rw [hy117]; with_reducible exact H) | (have H2_ := (Option.bind_some _ _).symm.trans H; rw [hy117]; with_reducible exact H2_) | (have H2_ := (Option.bind_some _ _).symm.trans H; with_reducible exact H2_) | with_reducible exact H | (rw [hy117]; exact H) | exact H
            have Ny117 := Aside0.mk hy117
            clear hy117
            have H' := Aside0.mk H
            clear H
            go_wp2_with (first | ((with_reducible refine gate_callee (f := 36) rfl ?_); refine goesL_ (some 29) rfl rfl Try.func36 (by kernel_rfl) rfl #[.pointer (some ⟨g, 0, none⟩), .int .i64 12] rfl qq5 ?_; (with_reducible refine (spec_l6Rd_pick.calls k1 g s0_0 x1001_1 12 t109 t110 w0 _ ?side1 ?side2 A8.out).mono ?_); (case side1 => exact qq9); (case side2 => exact qq8); rintro e w14 ⟨rfl, hi, hb, hk⟩; refine ⟨_, rfl, ?_⟩; have n0_ := Aside0.mk (Kd.R_mono (Kd.R_keep (IsS61.apart (show IsS61 w0 _ g s0_0 x1001_1 from by repeat (first | (with_reducible first | exact HI0.out | apply IsS61.alloc | apply IsS61.drewN | apply IsS61.drew | apply IsS61.set_1) | exact HI0.out)) (qq2 HO_7.out) (by decide)) hk (fun _ h => h.2)) (fun _ h => h.1)); have n1_ := Aside0.mk (KeepBut.trans qq6 hk (.inl rfl)); have n2_ := Aside0.mk (hb); have n3_ := Aside0.mk (hi); clear HO_7; clear HK; clear HB; clear HI0; have HO_7 := n0_; have HK := n1_; have HB := n2_; have HI0 := n3_; clear n0_ n1_ n2_ n3_; (try clear hb); (try clear hb2); (try clear hk); (try clear hi)) | ((with_reducible refine gate_callee (f := 36) rfl ?_); refine goesL_ (some 34) rfl rfl Try.func36 (by kernel_rfl) rfl #[.pointer (some ⟨g, 0, none⟩), .int .i64 x8_1] rfl qq5 ?_; (with_reducible refine (spec_l6Rd_pick.calls k1 g s0_0 t110 x8_1 t111 t112 w0 _ ?side1 ?side2 A10.out).mono ?_); (case side1 => exact qq9); (case side2 => exact qq8); rintro e w15 ⟨rfl, hi, hb, hk⟩; refine ⟨_, rfl, ?_⟩; have n0_ := Aside0.mk (Kd.R_mono (Kd.R_keep (IsS61.apart (show IsS61 w0 _ g s0_0 t110 from by repeat (first | (with_reducible first | exact HI0.out | apply IsS61.alloc | apply IsS61.drewN | apply IsS61.drew | apply IsS61.set_1) | exact HI0.out)) (qq2 HO_7.out) (by decide)) hk (fun _ h => h.2)) (fun _ h => h.1)); have n1_ := Aside0.mk (KeepBut.trans qq6 hk (.inl rfl)); have n2_ := Aside0.mk (hb); have n3_ := Aside0.mk (hi); clear HO_7; clear HK; clear HB; clear HI0; have HO_7 := n0_; have HK := n1_; have HB := n2_; have HI0 := n3_; clear n0_ n1_ n2_ n3_; (try clear hb); (try clear hb2); (try clear hk); (try clear hi)) | ((with_reducible refine gate_callee (f := 36) rfl ?_); refine goesL_ (some 37) rfl rfl Try.func36 (by kernel_rfl) rfl #[.pointer (some ⟨g, 0, none⟩), .int .i64 61] rfl qq5 ?_; (with_reducible refine (spec_l6Rd_pick.calls k1 g s0_0 t112 61 t113 t114 w0 _ ?side1 ?side2 A11.out).mono ?_); (case side1 => exact qq9); (case side2 => exact qq8); rintro e w16 ⟨rfl, hi, hb, hk⟩; refine ⟨_, rfl, ?_⟩; have n0_ := Aside0.mk (Kd.R_mono (Kd.R_keep (IsS61.apart (show IsS61 w0 _ g s0_0 t112 from by repeat (first | (with_reducible first | exact HI0.out | apply IsS61.alloc | apply IsS61.drewN | apply IsS61.drew | apply IsS61.set_1) | exact HI0.out)) (qq2 HO_7.out) (by decide)) hk (fun _ h => h.2)) (fun _ h => h.1)); have n1_ := Aside0.mk (KeepBut.trans qq6 hk (.inl rfl)); have n2_ := Aside0.mk (hb); have n3_ := Aside0.mk (hi); clear HO_7; clear HK; clear HB; clear HI0; have HO_7 := n0_; have HK := n1_; have HB := n2_; have HI0 := n3_; clear n0_ n1_ n2_ n3_; (try clear hb); (try clear hb2); (try clear hk); (try clear hi)) | ((with_reducible refine gate_callee (f := 36) rfl ?_); refine goesL_ (some 40) rfl rfl Try.func36 (by kernel_rfl) rfl #[.pointer (some ⟨g, 0, none⟩), .int .i64 4] rfl qq5 ?_; (with_reducible refine (spec_l6Rd_pick.calls k1 g s0_0 t114 4 t115 t116 w0 _ ?side1 ?side2 A12.out).mono ?_); (case side1 => exact qq9); (case side2 => exact qq8); rintro e w17 ⟨rfl, hi, hb, hk⟩; refine ⟨_, rfl, ?_⟩; have n0_ := Aside0.mk (Kd.R_mono (Kd.R_keep (IsS61.apart (show IsS61 w0 _ g s0_0 t114 from by repeat (first | (with_reducible first | exact HI0.out | apply IsS61.alloc | apply IsS61.drewN | apply IsS61.drew | apply IsS61.set_1) | exact HI0.out)) (qq2 HO_7.out) (by decide)) hk (fun _ h => h.2)) (fun _ h => h.1)); have n1_ := Aside0.mk (KeepBut.trans qq6 hk (.inl rfl)); have n2_ := Aside0.mk (hb); have n3_ := Aside0.mk (hi); clear HO_7; clear HK; clear HB; clear HI0; have HO_7 := n0_; have HK := n1_; have HB := n2_; have HI0 := n3_; clear n0_ n1_ n2_ n3_; (try clear hb); (try clear hb2); (try clear hk); (try clear hi)) | ((with_reducible refine gate_builtin (b := .append) (xs := #[.tmp 31, .tmp 43]) rfl ?_); at_builtin; refine Kd.R_append k32 w.heap.size rfl (.tmp 31) (.tmp 43) 23 32 (.agg #[(.int .i64 0), (.int .i64 0), (.int .i64 0), (.int .i64 0)]) 32 rfl Try.underlying23 info32 rfl (by decide) (by omega) u7 x7_1 (⟨t111, x8_1, wrap64 (t113 - 30), wrap64 (1 + t115)⟩ : S32) [.int .i64 t111, .int .i64 x8_1, .int .i64 (wrap64 (t113 - 30)), .int .i64 (wrap64 (1 + t115))] (fun _ => True) (fun _ => False) rfl rfl ?aP (fun _ hk => hk.elim) ?aF ?aO (Below.refl _ _) ?aS ?aL ?_; (case aP => exact k32_mkM _ _ _ (⟨t111, x8_1, wrap64 (t113 - 30), wrap64 (1 + t115)⟩ : S32)); (case aF => exact qq77); (case aO => exact (qq2 HO_7.out)); (case aS => exact qq83); (case aL => have := LMc13.out; omega); intro v118 w18 ho hb hg hat; rw [← Ny117.out] at ho; have n0_ := Aside0.mk (IsS61.grown qq9 hg (IsS61.own_ne HI0.out HO_7.out (by decide))); have n1_ := Aside0.mk (below_weaken qq8 HL.out hb); have n2_ := Aside0.mk (KeepBut.trans qq6 (KeepBut.of_grown hg g) (Kd.R_base2 HO_7.out)); have n3_ := Aside0.mk (ho); clear HI0; clear HB; clear HK; clear HO_7; have HI0 := n0_; have HB := n1_; have HK := n2_; have HO119 := n3_; clear n0_ n1_ n2_ n3_; clear ho hb hg hat))
            go_roundg k1
            case measure => have := HK1.out; omega
            case rel => exact ⟨(y117), (wrap64 (x8_1 + 1)), (t116), qq14, H', ⟨by have := HK1.out; omega⟩, ⟨qq2 HO119.out⟩, ⟨qq9⟩, ⟨qq6⟩, ⟨qq8⟩⟩
          · rw [if_neg c13] at H
            exact absurd H (by simp)
        · rw [if_neg c9] at H
          have c9b0 : decide (0 < t109) = false := decide_eq_false c9
          clear c9
          have H' := Aside0.mk H
          clear H
          go_wp2_with (first | ((with_reducible refine gate_callee (f := 36) rfl ?_); refine goesL_ (some 29) rfl rfl Try.func36 (by kernel_rfl) rfl #[.pointer (some ⟨g, 0, none⟩), .int .i64 12] rfl qq5 ?_; (with_reducible refine (spec_l6Rd_pick.calls k1 g s0_0 x1001_1 12 t109 t110 w0 _ ?side1 ?side2 A8.out).mono ?_); (case side1 => exact qq9); (case side2 => exact qq8); rintro e w19 ⟨rfl, hi, hb, hk⟩; refine ⟨_, rfl, ?_⟩; have n0_ := Aside0.mk (Kd.R_mono (Kd.R_keep (IsS61.apart (show IsS61 w0 _ g s0_0 x1001_1 from by repeat (first | (with_reducible first | exact HI0.out | apply IsS61.alloc | apply IsS61.drewN | apply IsS61.drew | apply IsS61.set_1) | exact HI0.out)) (qq2 HO_7.out) (by decide)) hk (fun _ h => h.2)) (fun _ h => h.1)); have n1_ := Aside0.mk (KeepBut.trans qq6 hk (.inl rfl)); have n2_ := Aside0.mk (hb); have n3_ := Aside0.mk (hi); clear HO_7; clear HK; clear HB; clear HI0; have HO_7 := n0_; have HK := n1_; have HB := n2_; have HI0 := n3_; clear n0_ n1_ n2_ n3_; (try clear hb); (try clear hb2); (try clear hk); (try clear hi)))
          go_roundg k1
          case measure => have := HK1.out; omega
          case rel => exact ⟨(x7_1), (wrap64 (x8_1 + 1)), (t110), qq14, H', ⟨by have := HK1.out; omega⟩, ⟨qq2 HO_7.out⟩, ⟨qq9⟩, ⟨qq6⟩, ⟨qq8⟩⟩
      · rw [if_neg c7] at H
        have c7b0 : decide (x8_1 < (wrap64 (2 + t104))) = false := decide_eq_false c7
        clear c7
        replace H := Option.bind_eq_some_iff.mp H
        obtain ⟨⟨t120, t121⟩, A200, H⟩ := H
        replace H : (spec_l91Net.l1 k1 (wrap64 (2 + t104)) x7_1 t120 0 s0_0 t121) = some (r1, r2, r3) := H
        have A20 := Aside0.mk A200
        clear A200
        have H' := Aside0.mk H
        clear H
        go_wp2_with (first | ((with_reducible refine gate_callee (f := 36) rfl ?_); refine goesL_ (some 46) rfl rfl Try.func36 (by kernel_rfl) rfl #[.pointer (some ⟨g, 0, none⟩), .int .i64 4] rfl qq5 ?_; (with_reducible refine (spec_l6Rd_pick.calls k1 g s0_0 x1001_1 4 t120 t121 w0 _ ?side1 ?side2 A20.out).mono ?_); (case side1 => exact qq9); (case side2 => exact qq8); rintro e w21 ⟨rfl, hi, hb, hk⟩; refine ⟨_, rfl, ?_⟩; have n0_ := Aside0.mk (Kd.R_mono (Kd.R_keep (IsS61.apart (show IsS61 w0 _ g s0_0 x1001_1 from by repeat (first | (with_reducible first | exact HI0.out | apply IsS61.alloc | apply IsS61.drewN | apply IsS61.drew | apply IsS61.set_1) | exact HI0.out)) (qq2 HO_7.out) (by decide)) hk (fun _ h => h.2)) (fun _ h => h.1)); have n1_ := Aside0.mk (KeepBut.trans qq6 hk (.inl rfl)); have n2_ := Aside0.mk (hb); have n3_ := Aside0.mk (hi); clear HO_7; clear HK; clear HB; clear HI0; have HO_7 := n0_; have HK := n1_; have HB := n2_; have HI0 := n3_; clear n0_ n1_ n2_ n3_; (try clear hb); (try clear hb2); (try clear hk); (try clear hi)))
        go_loopg [7, 10] k1 (fun kq v7 v10 w' => ∃ (x7_2 : List (S32)) (x10_2 : Int) (x1001_2 : Int), v10 = .int .i64 x10_2 ∧ Aside0 (spec_l91Net.l1 kq (wrap64 (2 + t104)) x7_2 t120 x10_2 s0_0 x1001_2 = some (r1, r2, r3)) ∧ Aside0 (kq ≤ k1) ∧ Aside0 (Kd.R k32 32 w' w.heap.size (fun _ => True) v7 x7_2) ∧ Aside0 (IsS61 w0 w' g s0_0 x1001_2) ∧ Aside0 (KeepBut w w' g none) ∧ Aside0 (Below w0.heap.size w0 w'))
        case atStart => exact ⟨(x7_1), (0), (t121), qq14, H', ⟨Nat.le_refl _⟩, ⟨qq2 HO_7.out⟩, ⟨qq9⟩, ⟨qq6⟩, ⟨qq8⟩⟩
        case round =>
          clear H'
          try clear c1
          try clear p2
          try clear c3
          try clear c4
          try clear p6
          try clear c7
          try clear c7b0
          try clear c9
          try clear c9b0
          try clear c13
          try clear p2
          try clear p6
          obtain ⟨x7_2, x10_2, x1001_2, rfl, HA, HK2, HO_7, HI0, HK, HB⟩ := hrel
          cases gk with
          | zero => exact absurd HA.out (by simp [spec_l91Net.l1])
          | succ k2 =>
            have H := HA.out
            clear HA
            simp only [spec_l91Net.l1] at H
            by_cases c22 : x10_2 < t120
            · rw [if_pos c22] at H
              have c22b0 : decide (x10_2 < t120) = true := decide_eq_true c22
              clear c22
              replace H := Option.bind_eq_some_iff.mp H
              obtain ⟨⟨t122, t123⟩, A230, H⟩ := H
              replace H : ((spec_l6Rd_pick.f k2 s0_0 t123 (wrap64 ((wrap64 (2 + t104)) - 1))).bind fun bt124 => (if (wrap64 (2 + t104)) = 0 then (none) else ((spec_l6Rd_pick.f k2 s0_0 bt124.2 61).bind fun bt126 => ((spec_l6Rd_pick.f k2 s0_0 bt126.2 4).bind fun bt128 => (if x7_2.length < 4398046511104 then (spec_l91Net.l1 k2 (wrap64 (2 + t104)) (x7_2 ++ [(⟨t122, Int.tmod (wrap64 ((wrap64 (t122 + 1)) + bt124.1)) (wrap64 (2 + t104)), wrap64 (bt126.1 - 30), wrap64 (1 + bt128.1)⟩ : S32)]) t120 (wrap64 (x10_2 + 1)) s0_0 bt128.2) else (none)))))) = some (r1, r2, r3) := H
              have A23 := Aside0.mk A230
              clear A230
              replace H := Option.bind_eq_some_iff.mp H
              obtain ⟨⟨t124, t125⟩, A240, H⟩ := H
              replace H : (if (wrap64 (2 + t104)) = 0 then (none) else ((spec_l6Rd_pick.f k2 s0_0 t125 61).bind fun bt126 => ((spec_l6Rd_pick.f k2 s0_0 bt126.2 4).bind fun bt128 => (if x7_2.length < 4398046511104 then (spec_l91Net.l1 k2 (wrap64 (2 + t104)) (x7_2 ++ [(⟨t122, Int.tmod (wrap64 ((wrap64 (t122 + 1)) + t124)) (wrap64 (2 + t104)), wrap64 (bt126.1 - 30), wrap64 (1 + bt128.1)⟩ : S32)]) t120 (wrap64 (x10_2 + 1)) s0_0 bt128.2) else (none))))) = some (r1, r2, r3) := H
              have A24 := Aside0.mk A240
              clear A240
              by_cases c25 : (wrap64 (2 + t104)) = 0
              · rw [if_pos c25] at H
                exact absurd H (by simp)
              · rw [if_neg c25] at H
                have c25b0 : ((wrap64 (2 + t104)) == 0) = false := beq_eq_false_iff_ne.mpr c25
                have c25b1 : ((wrap64 (2 + t104)) != 0) = true := bne_iff_ne.mpr c25
                replace H := Option.bind_eq_some_iff.mp H
                obtain ⟨⟨t126, t127⟩, A260, H⟩ := H
                replace H : ((spec_l6Rd_pick.f k2 s0_0 t127 4).bind fun bt128 => (if x7_2.length < 4398046511104 then (spec_l91Net.l1 k2 (wrap64 (2 + t104)) (x7_2 ++ [(⟨t122, Int.tmod (wrap64 ((wrap64 (t122 + 1)) + t124)) (wrap64 (2 + t104)), wrap64 (t126 - 30), wrap64 (1 + bt128.1)⟩ : S32)]) t120 (wrap64 (x10_2 + 1)) s0_0 bt128.2) else (none))) = some (r1, r2, r3) := H
                have A26 := Aside0.mk A260
                clear A260
                replace H := Option.bind_eq_some_iff.mp H
                obtain ⟨⟨t128, t129⟩, A270, H⟩ := H
                replace H : (if x7_2.length < 4398046511104 then (spec_l91Net.l1 k2 (wrap64 (2 + t104)) (x7_2 ++ [(⟨t122, Int.tmod (wrap64 ((wrap64 (t122 + 1)) + t124)) (wrap64 (2 + t104)), wrap64 (t126 - 30), wrap64 (1 + t128)⟩ : S32)]) t120 (wrap64 (x10_2 + 1)) s0_0 t129) else (none)) = some (r1, r2, r3) := H
                have A27 := Aside0.mk A270
                clear A270
                by_cases c28 : x7_2.length < 4398046511104
                · rw [if_pos c28] at H
                  have LMc28 := Aside0.mk c28
                  clear c28
                  obtain ⟨y130, hy130⟩ : ∃ y_ : List (S32), y_ = (x7_2 ++ [(⟨t122, Int.tmod (wrap64 ((wrap64 (t122 + 1)) + t124)) (wrap64 (2 + t104)), wrap64 (t126 - 30), wrap64 (1 + t128)⟩ : S32)]) := ⟨_, rfl⟩
                  replace H : (spec_l91Net.l1 k2 (wrap64 (2 + t104)) y130 t120 (wrap64 (x10_2 + 1)) s0_0 t129) = some (r1, r2, r3) := by first | (rw [hy130]; with_reducible exact H) | (have H2_ := (Option.bind_some _ _).symm.trans H; rw [hy130]; with_reducible exact H2_) | (have H2_ := (Option.bind_some _ _).symm.trans H; with_reducible exact H2_) | with_reducible exact H | (rw [hy130]; exact H) | exact H
                  have Ny130 := Aside0.mk hy130
                  clear hy130
                  have H' := Aside0.mk H
                  clear H
                  go_wp2_with (first | ((with_reducible refine gate_callee (f := 36) rfl ?_); refine goesL_ (some 54) rfl rfl Try.func36 (by kernel_rfl) rfl #[.pointer (some ⟨g, 0, none⟩), .int .i64 (wrap64 (2 + t104))] rfl qq5 ?_; (with_reducible refine (spec_l6Rd_pick.calls k2 g s0_0 x1001_2 (wrap64 (2 + t104)) t122 t123 w0 _ ?side1 ?side2 A23.out).mono ?_); (case side1 => exact qq9); (case side2 => exact qq8); rintro e w29 ⟨rfl, hi, hb, hk⟩; refine ⟨_, rfl, ?_⟩; have n0_ := Aside0.mk (Kd.R_mono (Kd.R_keep (IsS61.apart (show IsS61 w0 _ g s0_0 x1001_2 from by repeat (first | (with_reducible first | exact HI0.out | apply IsS61.alloc | apply IsS61.drewN | apply IsS61.drew | apply IsS61.set_1) | exact HI0.out)) (qq2 HO_7.out) (by decide)) hk (fun _ h => h.2)) (fun _ h => h.1)); have n1_ := Aside0.mk (KeepBut.trans qq6 hk (.inl rfl)); have n2_ := Aside0.mk (hb); have n3_ := Aside0.mk (hi); clear HO_7; clear HK; clear HB; clear HI0; have HO_7 := n0_; have HK := n1_; have HB := n2_; have HI0 := n3_; clear n0_ n1_ n2_ n3_; (try clear hb); (try clear hb2); (try clear hk); (try clear hi)) | ((with_reducible refine gate_callee (f := 36) rfl ?_); refine goesL_ (some 60) rfl rfl Try.func36 (by kernel_rfl) rfl #[.pointer (some ⟨g, 0, none⟩), .int .i64 (wrap64 ((wrap64 (2 + t104)) - 1))] rfl qq5 ?_; (with_reducible refine (spec_l6Rd_pick.calls k2 g s0_0 t123 (wrap64 ((wrap64 (2 + t104)) - 1)) t124 t125 w0 _ ?side1 ?side2 A24.out).mono ?_); (case side1 => exact qq9); (case side2 => exact qq8); rintro e w30 ⟨rfl, hi, hb, hk⟩; refine ⟨_, rfl, ?_⟩; have n0_ := Aside0.mk (Kd.R_mono (Kd.R_keep (IsS61.apart (show IsS61 w0 _ g s0_0 t123 from by repeat (first | (with_reducible first | exact HI0.out | apply IsS61.alloc | apply IsS61.drewN | apply IsS61.drew | apply IsS61.set_1) | exact HI0.out)) (qq2 HO_7.out) (by decide)) hk (fun _ h => h.2)) (fun _ h => h.1)); have n1_ := Aside0.mk (KeepBut.trans qq6 hk (.inl rfl)); have n2_ := Aside0.mk (hb); have n3_ := Aside0.mk (hi); clear HO_7; clear HK; clear HB; clear HI0; have HO_7 := n0_; have HK := n1_; have HB := n2_; have HI0 := n3_; clear n0_ n1_ n2_ n3_; (try clear hb); (try clear hb2); (try clear hk); (try clear hi)) | ((with_reducible refine gate_callee (f := 36) rfl ?_); refine goesL_ (some 68) rfl rfl Try.func36 (by kernel_rfl) rfl #[.pointer (some ⟨g, 0, none⟩), .int .i64 61] rfl qq5 ?_; (with_reducible refine (spec_l6Rd_pick.calls k2 g s0_0 t125 61 t126 t127 w0 _ ?side1 ?side2 A26.out).mono ?_); (case side1 => exact qq9); (case side2 => exact qq8); rintro e w31 ⟨rfl, hi, hb, hk⟩; refine ⟨_, rfl, ?_⟩; have n0_ := Aside0.mk (Kd.R_mono (Kd.R_keep (IsS61.apart (show IsS61 w0 _ g s0_0 t125 from by repeat (first | (with_reducible first | exact HI0.out | apply IsS61.alloc | apply IsS61.drewN | apply IsS61.drew | apply IsS61.set_1) | exact HI0.out)) (qq2 HO_7.out) (by decide)) hk (fun _ h => h.2)) (fun _ h => h.1)); have n1_ := Aside0.mk (KeepBut.trans qq6 hk (.inl rfl)); have n2_ := Aside0.mk (hb); have n3_ := Aside0.mk (hi); clear HO_7; clear HK; clear HB; clear HI0; have HO_7 := n0_; have HK := n1_; have HB := n2_; have HI0 := n3_; clear n0_ n1_ n2_ n3_; (try clear hb); (try clear hb2); (try clear hk); (try clear hi)) | ((with_reducible refine gate_callee (f := 36) rfl ?_); refine goesL_ (some 71) rfl rfl Try.func36 (by kernel_rfl) rfl #[.pointer (some ⟨g, 0, none⟩), .int .i64 4] rfl qq5 ?_; (with_reducible refine (spec_l6Rd_pick.calls k2 g s0_0 t127 4 t128 t129 w0 _ ?side1 ?side2 A27.out).mono ?_); (case side1 => exact qq9); (case side2 => exact qq8); rintro e w32 ⟨rfl, hi, hb, hk⟩; refine ⟨_, rfl, ?_⟩; have n0_ := Aside0.mk (Kd.R_mono (Kd.R_keep (IsS61.apart (show IsS61 w0 _ g s0_0 t127 from by repeat (first | (with_reducible first | exact HI0.out | apply IsS61.alloc | apply IsS61.drewN | apply IsS61.drew | apply IsS61.set_1) | exact HI0.out)) (qq2 HO_7.out) (by decide)) hk (fun _ h => h.2)) (fun _ h => h.1)); have n1_ := Aside0.mk (KeepBut.trans qq6 hk (.inl rfl)); have n2_ := Aside0.mk (hb); have n3_ := Aside0.mk (hi); clear HO_7; clear HK; clear HB; clear HI0; have HO_7 := n0_; have HK := n1_; have HB := n2_; have HI0 := n3_; clear n0_ n1_ n2_ n3_; (try clear hb); (try clear hb2); (try clear hk); (try clear hi)) | ((with_reducible refine gate_builtin (b := .append) (xs := #[.tmp 64, .tmp 74]) rfl ?_); at_builtin; refine Kd.R_append k32 w.heap.size rfl (.tmp 64) (.tmp 74) 23 32 (.agg #[(.int .i64 0), (.int .i64 0), (.int .i64 0), (.int .i64 0)]) 32 rfl Try.underlying23 info32 rfl (by decide) (by omega) u7 x7_2 (⟨t122, Int.tmod (wrap64 ((wrap64 (t122 + 1)) + t124)) (wrap64 (2 + t104)), wrap64 (t126 - 30), wrap64 (1 + t128)⟩ : S32) [.int .i64 t122, .int .i64 (Int.tmod (wrap64 ((wrap64 (t122 + 1)) + t124)) (wrap64 (2 + t104))), .int .i64 (wrap64 (t126 - 30)), .int .i64 (wrap64 (1 + t128))] (fun _ => True) (fun _ => False) rfl rfl ?aP (fun _ hk => hk.elim) ?aF ?aO (Below.refl _ _) ?aS ?aL ?_; (case aP => exact k32_mkM _ _ _ (⟨t122, Int.tmod (wrap64 ((wrap64 (t122 + 1)) + t124)) (wrap64 (2 + t104)), wrap64 (t126 - 30), wrap64 (1 + t128)⟩ : S32)); (case aF => exact qq77); (case aO => exact (qq2 HO_7.out)); (case aS => exact qq83); (case aL => have := LMc28.out; omega); intro v131 w33 ho hb hg hat; rw [← Ny130.out] at ho; have n0_ := Aside0.mk (IsS61.grown qq9 hg (IsS61.own_ne HI0.out HO_7.out (by decide))); have n1_ := Aside0.mk (below_weaken qq8 HL.out hb); have n2_ := Aside0.mk (KeepBut.trans qq6 (KeepBut.of_grown hg g) (Kd.R_base2 HO_7.out)); have n3_ := Aside0.mk (ho); clear HI0; clear HB; clear HK; clear HO_7; have HI0 := n0_; have HB := n1_; have HK := n2_; have HO132 := n3_; clear n0_ n1_ n2_ n3_; clear ho hb hg hat))
                  go_roundg k2
                  case measure => have := HK1.out; have := HK2.out; omega
                  case rel => exact ⟨(y130), (wrap64 (x10_2 + 1)), (t129), qq14, H', ⟨qq84⟩, ⟨qq2 HO132.out⟩, ⟨qq9⟩, ⟨qq6⟩, ⟨qq8⟩⟩
                · rw [if_neg c28] at H
                  exact absurd H (by simp)
            · rw [if_neg c22] at H
              have c22b0 : decide (x10_2 < t120) = false := decide_eq_false c22
              clear c22
              have H' := Aside0.mk H
              clear H
              go_wp2
              go_loopg [13] k2 (fun kq v13 w' => ∃ (x7_3 : List (S32)) (x13_3 : Int) (x1001_3 : Int), v13 = .int .i64 x13_3 ∧ Aside0 (spec_l91Net.l2 kq (wrap64 (2 + t104)) x7_3 x13_3 s0_0 x1001_3 = some (r1, r2, r3)) ∧ Aside0 (kq ≤ k2) ∧ Aside0 (Kd.R k32 32 w' w.heap.size (fun _ => True) u7 x7_3) ∧ Aside0 (IsS61 w0 w' g s0_0 x1001_3) ∧ Aside0 (KeepBut w w' g none) ∧ Aside0 (Below w0.heap.size w0 w'))
              case atStart => exact ⟨(x7_2), (0), (x1001_2), qq14, H', ⟨Nat.le_refl _⟩, ⟨qq2 HO_7.out⟩, ⟨qq9⟩, ⟨qq6⟩, ⟨qq8⟩⟩
              case round =>
                clear H'
                try clear c1
                try clear c2
                try clear p2
                try clear c3
                try clear c4
                try clear p6
                try clear c7
                try clear c7b0
                try clear c9
                try clear c9b0
                try clear c13
                try clear c22
                try clear c22b0
                try clear c25
                try clear c25b0
                try clear c25b1
                try clear c28
                try clear p2
                try clear p6
                obtain ⟨x7_3, x13_3, x1001_3, rfl, HA, HK3, HO_7, HI0, HK, HB⟩ := hrel
                cases gk with
                | zero => exact absurd HA.out (by simp [spec_l91Net.l2])
                | succ k3 =>
                  have H := HA.out
                  clear HA
                  simp only [spec_l91Net.l2] at H
                  by_cases c34 : x13_3 < (x7_3.length : Int)
                  · rw [if_pos c34] at H
                    have c34b0 : decide (x13_3 < (x7_3.length : Int)) = true := decide_eq_true c34
                    clear c34
                    replace H := Option.bind_eq_some_iff.mp H
                    obtain ⟨⟨t133, t134⟩, A350, H⟩ := H
                    replace H : (if t133 = 0 then (if 0 ≤ x13_3 then (spec_l91Net.l2 k3 (wrap64 (2 + t104)) (x7_3.set (x13_3 : Int).toNat (⟨(rd_T32 x7_3 x13_3).f1, (rd_T32 x7_3 x13_3).f0, wrap64 (-((rd_T32 x7_3 x13_3).f2)), (rd_T32 x7_3 x13_3).f3⟩ : S32)) (wrap64 (x13_3 + 1)) s0_0 t134) else (none)) else (spec_l91Net.l2 k3 (wrap64 (2 + t104)) x7_3 (wrap64 (x13_3 + 1)) s0_0 t134)) = some (r1, r2, r3) := H
                    have A35 := Aside0.mk A350
                    clear A350
                    by_cases c36 : t133 = 0
                    · rw [if_pos c36] at H
                      have c36b0 : (t133 == 0) = true := beq_iff_eq.mpr c36
                      have c36b1 : (t133 != 0) = false := bne_eq_false_iff_eq.mpr c36
                      clear c36
                      by_cases c37 : 0 ≤ x13_3
                      · rw [if_pos c37] at H
                        have c37b0 : decide (0 ≤ x13_3) = true := decide_eq_true c37
                        clear c37
                        obtain ⟨y137, hy137⟩ : ∃ y_ : List (S32), y_ = (x7_3.set (x13_3 : Int).toNat (⟨(rd_T32 x7_3 x13_3).f1, (rd_T32 x7_3 x13_3).f0, wrap64 (-((rd_T32 x7_3 x13_3).f2)), (rd_T32 x7_3 x13_3).f3⟩ : S32)) := ⟨_, rfl⟩
                        replace H : (spec_l91Net.l2 k3 (wrap64 (2 + t104)) y137 (wrap64 (x13_3 + 1)) s0_0 t134) = some (r1, r2, r3) := by first | (rw [hy137]; with_reducible exact H) | (have H2_ := (Option.bind_some _ _).symm.trans H; rw [hy137]; with_reducible exact H2_) | (have H2_ := (Option.bind_some _ _).symm.trans H; with_reducible exact H2_) | with_reducible exact H | (rw [hy137]; exact H) | exact H
                        have Ny137 := Aside0.mk hy137
                        clear hy137
                        have H' := Aside0.mk H
                        clear H
                        obtain ⟨Ao39, co39, eo39⟩ := Kd.R_slice HO_7.out
                        subst eo39
                        go_wp2_with (first | ((with_reducible refine gate_callee (f := 36) rfl ?_); refine goesL_ (some 83) rfl rfl Try.func36 (by kernel_rfl) rfl #[.pointer (some ⟨g, 0, none⟩), .int .i64 3] rfl qq5 ?_; (with_reducible refine (spec_l6Rd_pick.calls k3 g s0_0 x1001_3 3 t133 t134 w0 _ ?side1 ?side2 A35.out).mono ?_); (case side1 => exact qq9); (case side2 => exact qq8); rintro e w40 ⟨rfl, hi, hb, hk⟩; refine ⟨_, rfl, ?_⟩; have n0_ := Aside0.mk (Kd.R_mono (Kd.R_keep (IsS61.apart (show IsS61 w0 _ g s0_0 x1001_3 from by repeat (first | (with_reducible first | exact HI0.out | apply IsS61.alloc | apply IsS61.drewN | apply IsS61.drew | apply IsS61.set_1) | exact HI0.out)) (qq2 HO_7.out) (by decide)) hk (fun _ h => h.2)) (fun _ h => h.1)); have n1_ := Aside0.mk (KeepBut.trans qq6 hk (.inl rfl)); have n2_ := Aside0.mk (hb); have n3_ := Aside0.mk (hi); clear HO_7; clear HK; clear HB; clear HI0; have HO_7 := n0_; have HK := n1_; have HB := n2_; have HI0 := n3_; clear n0_ n1_ n2_ n3_; (try clear hb); (try clear hb2); (try clear hk); (try clear hi); have p135 : 0 ≤ (x13_3 : Int) := of_decide_eq_true qq3; have q135 : x13_3 < (x7_3.length : Int) := of_decide_eq_true qq3; obtain ⟨ad135, e135, hx135_0, hx135_1, hx135_2, hx135_3⟩ := at_T32 (Kd.R_reads' HO_7.out).2.2 x13_3 p135 q135; cases e135; replace p135 := eq_true p135; replace q135 := eq_true q135) | ((with_reducible refine gate_dst (N := 14) rfl ?_); refine box_event ?hg (N := 14) ?hd (cs := #[.int .i64 0, .int .i64 0, .int .i64 0, .int .i64 0]) (t := 32) ?hr ?_; (case hd => rfl); (case hg => rfl); (case hr => exact qq16); intro gb136 hg w41 hbox hb; have n0_ := Aside0.mk (Kd.R_below (Kd.R_elderB (qq2 HO_7.out) gb136 (Nat.le_of_eq hg.symm)) hb); have n1_ := Aside0.mk (IsS61.below qq9 hb); have n2_ := Aside0.mk (KeepBut.trans qq6 (KeepBut.of_below hb g none) (.inl rfl)); have n3_ := Aside0.mk (below_step qq8 hb); have n4_ := Aside0.mk (hbox); have n5_ := Aside0.mk ((qq64 : w.heap.size ≤ gb136)); have n6_ := Aside0.mk ((Nat.le_trans HW0.out (qq64 : w.heap.size ≤ gb136) : w0.heap.size ≤ gb136)); have n7_ := Aside0.mk ((by rw [hg]; exact Nat.ne_of_lt (IsS61.lt (show IsS61 w0 _ g s0_0 t134 from by repeat (first | (with_reducible first | exact HI0.out | apply IsS61.alloc | apply IsS61.drewN | apply IsS61.drew | apply IsS61.set_1) | exact HI0.out))) : g ≠ gb136)); have n8_ := Aside0.mk ((by rw [hg]; exact Nat.ne_of_gt (IsS61.lt (show IsS61 w0 _ g s0_0 t134 from by repeat (first | (with_reducible first | exact HI0.out | apply IsS61.alloc | apply IsS61.drewN | apply IsS61.drew | apply IsS61.set_1) | exact HI0.out))) : gb136 ≠ g)); clear HO_7; clear HI0; clear HK; clear HB; have HO_7 := n0_; have HI0 := n1_; have HK := n2_; have HB := n3_; have BK136 := n4_; have GW136 := n5_; have GE136 := n6_; have NB0_136 := n7_; have NB136_0 := n8_; clear n0_ n1_ n2_ n3_ n4_ n5_ n6_ n7_ n8_; clear hb hbox hg; have hnb42 := NB136_0.out; have hnc42 := NB0_136.out; have hcz43_0 : w41.cell? ⟨gb136, 0, none⟩ = some (.int .i64 0) := (blk_cell BK136.out 0).trans rfl; have hcz43_1 : w41.cell? ⟨gb136, 1, none⟩ = some (.int .i64 0) := (blk_cell BK136.out 1).trans rfl; have hcz43_2 : w41.cell? ⟨gb136, 2, none⟩ = some (.int .i64 0) := (blk_cell BK136.out 2).trans rfl; have hcz43_3 : w41.cell? ⟨gb136, 3, none⟩ = some (.int .i64 0) := (blk_cell BK136.out 3).trans rfl; have hfz43_0 := blk_frozen BK136.out 0; have hfz43_1 := blk_frozen BK136.out 1; have hfz43_2 := blk_frozen BK136.out 2; have hfz43_3 := blk_frozen BK136.out 3) | ((with_reducible refine gate_store (t := 32) (p := 14) rfl ?_); refine store_event (t := 32) (p := 14) (v := ?vo_w44) (w1 := ((((w41.setCell ⟨gb136, 0, none⟩ (.int .i64 ((rd_T32 x7_3 x13_3).f0))).setCell ⟨gb136, 1, none⟩ (.int .i64 ((rd_T32 x7_3 x13_3).f1))).setCell ⟨gb136, 2, none⟩ (.int .i64 ((rd_T32 x7_3 x13_3).f2))).setCell ⟨gb136, 3, none⟩ (.int .i64 ((rd_T32 x7_3 x13_3).f3)))) ?hg ?ho ?hn ?hr ?_; (case ho => rfl); (case hg => rfl); (case hn => rfl); (case hr => exact qq16); intro w44 hw; have n0_ : Aside0 (Kd.R k32 32 w44 w.heap.size (fun k_ => k_ ≠ gb136) (.slice (some ad135) x7_3.length co39) x7_3) := ⟨(by rw [hw]; exact (by (with_reducible repeat (first | apply Kd.R_alloc | apply Kd.R_drewN | apply Kd.R_drew)); exact Kd.R_mono (Kd.R_far (p := ⟨gb136, 3, none⟩) (Kd.R_far (p := ⟨gb136, 2, none⟩) (Kd.R_far (p := ⟨gb136, 1, none⟩) (Kd.R_far (p := ⟨gb136, 0, none⟩) (Kd.R_mono HO_7.out (fun k_ hk => (⟨hk, hk.2⟩ : _ ∧ k_ ≠ gb136))) (fun _ hk => hk.2) (.int .i64 ((rd_T32 x7_3 x13_3).f0))) (fun _ hk => hk.2) (.int .i64 ((rd_T32 x7_3 x13_3).f1))) (fun _ hk => hk.2) (.int .i64 ((rd_T32 x7_3 x13_3).f2))) (fun _ hk => hk.2) (.int .i64 ((rd_T32 x7_3 x13_3).f3))) (fun _ hk => hk.1.2)))⟩; have n1_ : Aside0 (w44.heap[gb136]? = some (.cells #[.int .i64 ((rd_T32 x7_3 x13_3).f0), .int .i64 ((rd_T32 x7_3 x13_3).f1), .int .i64 ((rd_T32 x7_3 x13_3).f2), .int .i64 ((rd_T32 x7_3 x13_3).f3)] 32 (0, 0))) := ⟨(by rw [hw]; exact (by (with_reducible repeat (first | refine blk_drewN ?_ _ | refine blk_drew ?_ | refine blk_alloc ?_ _)); refine blk_put (cs := #[.int .i64 ((rd_T32 x7_3 x13_3).f0), .int .i64 ((rd_T32 x7_3 x13_3).f1), .int .i64 ((rd_T32 x7_3 x13_3).f2), .int .i64 0]) ?_ 3 _ rfl; (with_reducible repeat (first | refine blk_drewN ?_ _ | refine blk_drew ?_ | refine blk_alloc ?_ _)); refine blk_put (cs := #[.int .i64 ((rd_T32 x7_3 x13_3).f0), .int .i64 ((rd_T32 x7_3 x13_3).f1), .int .i64 0, .int .i64 0]) ?_ 2 _ rfl; (with_reducible repeat (first | refine blk_drewN ?_ _ | refine blk_drew ?_ | refine blk_alloc ?_ _)); refine blk_put (cs := #[.int .i64 ((rd_T32 x7_3 x13_3).f0), .int .i64 0, .int .i64 0, .int .i64 0]) ?_ 1 _ rfl; (with_reducible repeat (first | refine blk_drewN ?_ _ | refine blk_drew ?_ | refine blk_alloc ?_ _)); refine blk_put (cs := #[.int .i64 0, .int .i64 0, .int .i64 0, .int .i64 0]) ?_ 0 _ rfl; (with_reducible repeat (first | refine blk_drewN ?_ _ | refine blk_drew ?_ | refine blk_alloc ?_ _)); exact BK136.out))⟩; have n2_ : Aside0 (IsS61 w0 w44 g s0_0 t134) := ⟨(by rw [hw]; exact (qq25 HI0.out NB0_136.out))⟩; have n3_ : Aside0 (KeepBut w w44 g none) := ⟨(by rw [hw]; exact (qq28 HK.out GW136.out))⟩; have n4_ : Aside0 (Below w0.heap.size w0 w44) := ⟨(by rw [hw]; exact (qq51 HB.out HI0.out GE136.out))⟩; clear hw; clear HO_7; clear BK136; clear HI0; clear HK; clear HB; have HO_7 := n0_; have BK136 := n1_; have HI0 := n2_; have HK := n3_; have HB := n4_; clear n0_ n1_ n2_ n3_ n4_; have hcz45_0 : w44.cell? ⟨gb136, 0, none⟩ = some (.int .i64 ((rd_T32 x7_3 x13_3).f0)) := (blk_cell BK136.out 0).trans rfl; have hcz45_1 : w44.cell? ⟨gb136, 1, none⟩ = some (.int .i64 ((rd_T32 x7_3 x13_3).f1)) := (blk_cell BK136.out 1).trans rfl; have hcz45_2 : w44.cell? ⟨gb136, 2, none⟩ = some (.int .i64 ((rd_T32 x7_3 x13_3).f2)) := (blk_cell BK136.out 2).trans rfl; have hcz45_3 : w44.cell? ⟨gb136, 3, none⟩ = some (.int .i64 ((rd_T32 x7_3 x13_3).f3)) := (blk_cell BK136.out 3).trans rfl; have hfz45_0 := blk_frozen BK136.out 0; have hfz45_1 := blk_frozen BK136.out 1; have hfz45_2 := blk_frozen BK136.out 2; have hfz45_3 := blk_frozen BK136.out 3; have p38 : 0 ≤ (x13_3 : Int) := of_decide_eq_true qq3; have q38 : (x13_3 : Int) < ((x7_3.length : Int) : Int) := of_decide_eq_true qq3; obtain ⟨go38, co38, eo38, gb38, gl38, cl38, HG38⟩ := Kd.R_form HO_7.out (by omega); (first | cases eo38 | (injection eo38 with ea_ en_ ec_; (first | subst ea_ | (injection ea_ with ea_; subst ea_)); subst ec_; clear en_)); have GB38 := Aside0.mk gb38; have GG38 := Aside0.mk HG38; clear gb38 gl38 HG38; (first | simp only [add_plain] at hx135_0 | skip); (first | simp only [add_plain] at hx135_1 | skip); (first | simp only [add_plain] at hx135_2 | skip); (first | simp only [add_plain] at hx135_3 | skip); obtain ⟨ce38, hcl38, hM38, hcc38, hfr38⟩ := Kd.R_elem HO_7.out z32 (x13_3 : Int) p38 q38; obtain rfl := k32_openM hM38; have hx38_0 : w44.cell? ⟨go38, (x13_3 : Int).toNat * 4, none⟩ = some (.int .i64 ((rd_T32 x7_3 x13_3).f0)) := hcc38 0 _ rfl; have hx38_1 : w44.cell? ⟨go38, (x13_3 : Int).toNat * 4 + 1, none⟩ = some (.int .i64 ((rd_T32 x7_3 x13_3).f1)) := hcc38 1 _ rfl; have hx38_2 : w44.cell? ⟨go38, (x13_3 : Int).toNat * 4 + 2, none⟩ = some (.int .i64 ((rd_T32 x7_3 x13_3).f2)) := hcc38 2 _ rfl; have hx38_3 : w44.cell? ⟨go38, (x13_3 : Int).toNat * 4 + 3, none⟩ = some (.int .i64 ((rd_T32 x7_3 x13_3).f3)) := hcc38 3 _ rfl; have hf38_0 : w44.frozen? ⟨go38, (x13_3 : Int).toNat * 4, none⟩ = false := hfr38 0; have hf38_1 : w44.frozen? ⟨go38, (x13_3 : Int).toNat * 4 + 1, none⟩ = false := hfr38 1; have hf38_2 : w44.frozen? ⟨go38, (x13_3 : Int).toNat * 4 + 2, none⟩ = false := hfr38 2; have hf38_3 : w44.frozen? ⟨go38, (x13_3 : Int).toNat * 4 + 3, none⟩ = false := hfr38 3; clear hcl38 hcc38 hfr38; (try clear hM38); replace p38 := eq_true p38; replace q38 := eq_true q38; have HX46 := Aside0.mk (show Kd.R k32 32 w44 w.heap.size (fun k_ => k_ ≠ gb136) (.slice (some ⟨go38, 0, none⟩) x7_3.length co39) x7_3 from (qq2 HO_7.out)); obtain ⟨ce46, hcl46, hM46, hcc46, hfr46⟩ := Kd.R_elem HX46.out z32 (x13_3 : Int) (of_decide_eq_true qq3) (by have h_ : (x13_3 : Int) < ((x7_3.length : Int) : Int) := of_decide_eq_true qq3; first | exact h_ | (have e_ := (Kd.R_reads' HO_7.out).1; omega) | simpa using h_); obtain rfl := k32_openM hM46; have HP46 := Kd.R_seg HX46.out (x13_3 : Int) (of_decide_eq_true qq3) (by have h_ : (x13_3 : Int) < ((x7_3.length : Int) : Int) := of_decide_eq_true qq3; first | exact h_ | (have e_ := (Kd.R_reads' HO_7.out).1; omega) | simpa using h_) (seg := [.int .i64 ((rd_T32 x7_3 x13_3).f1), .int .i64 ((rd_T32 x7_3 x13_3).f0), .int .i64 (wrap64 (-((rd_T32 x7_3 x13_3).f2))), .int .i64 ((rd_T32 x7_3 x13_3).f3)]) (j := 0) hcl46 hcc46 (show 4 ≤ 4 from by decide) (x' := (⟨(rd_T32 x7_3 x13_3).f1, (rd_T32 x7_3 x13_3).f0, wrap64 (-((rd_T32 x7_3 x13_3).f2)), (rd_T32 x7_3 x13_3).f3⟩ : S32)) (k32_mkM _ _ _ (⟨(rd_T32 x7_3 x13_3).f1, (rd_T32 x7_3 x13_3).f0, wrap64 (-((rd_T32 x7_3 x13_3).f2)), (rd_T32 x7_3 x13_3).f3⟩ : S32) ) (fun _ hk => hk); have hx46_0 := hcc46 0 _ rfl; (try simp only [show (k32).sz = 4 from rfl, Nat.mul_one, Nat.add_zero] at hx46_0); have hf46_0 := hfr46 0; (try simp only [show (k32).sz = 4 from rfl, Nat.mul_one, Nat.add_zero] at hf46_0); have hx46_1 := hcc46 1 _ rfl; (try simp only [show (k32).sz = 4 from rfl, Nat.mul_one, Nat.add_zero] at hx46_1); have hf46_1 := hfr46 1; (try simp only [show (k32).sz = 4 from rfl, Nat.mul_one, Nat.add_zero] at hf46_1); have hx46_2 := hcc46 2 _ rfl; (try simp only [show (k32).sz = 4 from rfl, Nat.mul_one, Nat.add_zero] at hx46_2); have hf46_2 := hfr46 2; (try simp only [show (k32).sz = 4 from rfl, Nat.mul_one, Nat.add_zero] at hf46_2); have hx46_3 := hcc46 3 _ rfl; (try simp only [show (k32).sz = 4 from rfl, Nat.mul_one, Nat.add_zero] at hx46_3); have hf46_3 := hfr46 3; (try simp only [show (k32).sz = 4 from rfl, Nat.mul_one, Nat.add_zero] at hf46_3); clear hcl46 hcc46 hfr46; (try clear hM46)) | ((with_reducible refine gate_store (t := 32) (p := 101) rfl ?_); refine store_event (t := 32) (p := 101) (v := ?vo_w47) (w1 := ((((w44.setCell ⟨go38, (x13_3 : Int).toNat * 4, none⟩ (.int .i64 ((rd_T32 x7_3 x13_3).f1))).setCell ⟨go38, (x13_3 : Int).toNat * 4 + 1, none⟩ (.int .i64 ((rd_T32 x7_3 x13_3).f0))).setCell ⟨go38, (x13_3 : Int).toNat * 4 + 2, none⟩ (.int .i64 (wrap64 (-((rd_T32 x7_3 x13_3).f2))))).setCell ⟨go38, (x13_3 : Int).toNat * 4 + 3, none⟩ (.int .i64 ((rd_T32 x7_3 x13_3).f3)))) ?hg ?ho ?hn ?hr ?_; (case ho => rfl); (case hg => rfl); (case hn => rfl); (case hr => exact qq16); intro w47 hw; have hg : w44.grownBy w47 (some go38) := (by rw [hw]; exact HP46.2); have hp_ : Kd.R k32 32 w47 w.heap.size (fun k_ => k_ ≠ gb136) (.slice (some ⟨go38, 0, none⟩) x7_3.length co39) y137 := (by rw [hw, Ny137.out]; exact HP46.1); clear HP46; have n0_ := Aside0.mk (hp_); have n1_ := Aside0.mk (IsS61.grown (qq25 HI0.out NB0_136.out) hg (IsS61.own_ne HI0.out HO_7.out (by decide))); have n2_ := Aside0.mk (blk_grown (g := gb136) (o := .cells #[.int .i64 ((rd_T32 x7_3 x13_3).f0), .int .i64 ((rd_T32 x7_3 x13_3).f1), .int .i64 ((rd_T32 x7_3 x13_3).f2), .int .i64 ((rd_T32 x7_3 x13_3).f3)] 32 (0, 0)) (qq23 BK136.out) hg (Kd.R_away HO_7.out (fun _ hk => hk))); have n3_ := Aside0.mk ((qq56 HB.out HL.out GB38.out : Below w0.heap.size w0 w47)); have n4_ := Aside0.mk (KeepBut.trans (qq28 HK.out GW136.out) (KeepBut.of_grown hg g) (Kd.R_base2 HO_7.out)); clear HO_7; clear HI0; clear BK136; clear HB; clear HK; have HO_7 := n0_; have HI0 := n1_; have BK136 := n2_; have HB := n3_; have HK := n4_; clear n0_ n1_ n2_ n3_ n4_; clear hg hw hp_))
                        go_roundg k3
                        case measure => have := HK1.out; have := HK2.out; have := HK3.out; omega
                        case rel => exact ⟨(y137), (wrap64 (x13_3 + 1)), (t134), qq14, H', ⟨qq57 HK1.out HK2.out HK3.out⟩, ⟨qq17 HO_7.out⟩, ⟨qq25 HI0.out NB0_136.out⟩, ⟨qq28 HK.out GW136.out⟩, ⟨qq51 HB.out HI0.out GE136.out⟩⟩
                      · rw [if_neg c37] at H
                        exact absurd H (by simp)
                    · rw [if_neg c36] at H
                      have c36b0 : (t133 == 0) = false := beq_eq_false_iff_ne.mpr c36
                      have c36b1 : (t133 != 0) = true := bne_iff_ne.mpr c36
                      have H' := Aside0.mk H
                      clear H
                      obtain ⟨Ao48, co48, eo48⟩ := Kd.R_slice HO_7.out
                      subst eo48
                      go_wp2_with (first | ((with_reducible refine gate_callee (f := 36) rfl ?_); refine goesL_ (some 83) rfl rfl Try.func36 (by kernel_rfl) rfl #[.pointer (some ⟨g, 0, none⟩), .int .i64 3] rfl qq5 ?_; (with_reducible refine (spec_l6Rd_pick.calls k3 g s0_0 x1001_3 3 t133 t134 w0 _ ?side1 ?side2 A35.out).mono ?_); (case side1 => exact qq9); (case side2 => exact qq8); rintro e w49 ⟨rfl, hi, hb, hk⟩; refine ⟨_, rfl, ?_⟩; have n0_ := Aside0.mk (Kd.R_mono (Kd.R_keep (IsS61.apart (show IsS61 w0 _ g s0_0 x1001_3 from by repeat (first | (with_reducible first | exact HI0.out | apply IsS61.alloc | apply IsS61.drewN | apply IsS61.drew | apply IsS61.set_1) | exact HI0.out)) (qq2 HO_7.out) (by decide)) hk (fun _ h => h.2)) (fun _ h => h.1)); have n1_ := Aside0.mk (KeepBut.trans qq6 hk (.inl rfl)); have n2_ := Aside0.mk (hb); have n3_ := Aside0.mk (hi); clear HO_7; clear HK; clear HB; clear HI0; have HO_7 := n0_; have HK := n1_; have HB := n2_; have HI0 := n3_; clear n0_ n1_ n2_ n3_; (try clear hb); (try clear hb2); (try clear hk); (try clear hi)))
                      go_roundg k3
                      case measure => have := HK1.out; have := HK2.out; have := HK3.out; omega
                      case rel => exact ⟨(x7_3), (wrap64 (x13_3 + 1)), (t134), qq14, H', ⟨qq57 HK1.out HK2.out HK3.out⟩, ⟨qq2 HO_7.out⟩, ⟨qq9⟩, ⟨qq6⟩, ⟨qq8⟩⟩
                  · rw [if_neg c34] at H
                    have c34b0 : decide (x13_3 < (x7_3.length : Int)) = false := decide_eq_false c34
                    clear c34
                    have HC50 := Aside0.mk H
                    clear H
                    obtain ⟨Ao51, co51, eo51⟩ := Kd.R_slice HO_7.out
                    subst eo51
                    go_upto_if 104 with (fail)
                    go_cut [] (fun wc => ∃ (kq : Nat) (x7_49 : List (S32)) (x1001_49 : Int), Aside0 (spec_l91Net.j3 kq (wrap64 (2 + t104)) x7_49 s0_0 x1001_49 = some (r1, r2, r3)) ∧ Aside0 (kq ≤ k3) ∧ Aside0 (Kd.R k32 32 wc w.heap.size (fun _ => True) (.slice Ao51 x7_3.length co51) x7_49) ∧ Aside0 (IsS61 w0 wc g s0_0 x1001_49) ∧ Aside0 (KeepBut w wc g none) ∧ Aside0 (Below w0.heap.size w0 wc))
                    case first =>
                      have H := HC50.out
                      clear HC50
                      by_cases c52 : (x7_3.length : Int) > 1
                      · rw [if_pos c52] at H
                        have c52b0 : decide (1 < (x7_3.length : Int)) = true := decide_eq_true c52
                        have c52b1 : decide (1 < x7_3.length) = true := decide_eq_true (by omega)
                        clear c52
                        (first | rw [c52b0] | (simp only [i64_w, i32_w]; rw [c52b0]) | skip)
                        replace H := Option.bind_eq_some_iff.mp H
                        obtain ⟨⟨t138, t139⟩, A530, H⟩ := H
                        replace H : (if 0 < (x7_3.length : Int) then (if 0 ≤ t138 then (if t138 < (x7_3.length : Int) then (spec_l91Net.j3 k3 (wrap64 (2 + t104)) ((x7_3.set (0 : Int).toNat (⟨(rd_T32 x7_3 t138).f0, (rd_T32 x7_3 t138).f1, (rd_T32 x7_3 t138).f2, (rd_T32 x7_3 t138).f3⟩ : S32)).set (t138 : Int).toNat (⟨(rd_T32 x7_3 0).f0, (rd_T32 x7_3 0).f1, (rd_T32 x7_3 0).f2, (rd_T32 x7_3 0).f3⟩ : S32)) s0_0 t139) else (none)) else (none)) else (none)) = some (r1, r2, r3) := H
                        have A53 := Aside0.mk A530
                        clear A530
                        by_cases c54 : 0 < (x7_3.length : Int)
                        · rw [if_pos c54] at H
                          have c54b0 : decide (0 < (x7_3.length : Int)) = true := decide_eq_true c54
                          have c54b1 : decide (0 < x7_3.length) = true := decide_eq_true (by omega)
                          clear c54
                          by_cases c55 : 0 ≤ t138
                          · rw [if_pos c55] at H
                            have c55b0 : decide (0 ≤ t138) = true := decide_eq_true c55
                            clear c55
                            by_cases c56 : t138 < (x7_3.length : Int)
                            · rw [if_pos c56] at H
                              have c56b0 : decide (t138 < (x7_3.length : Int)) = true := decide_eq_true c56
                              clear c56
                              obtain ⟨y143, hy143⟩ : ∃ y_ : List (S32), y_ = (x7_3.set (0 : Int).toNat (⟨(rd_T32 x7_3 t138).f0, (rd_T32 x7_3 t138).f1, (rd_T32 x7_3 t138).f2, (rd_T32 x7_3 t138).f3⟩ : S32)) := ⟨_, rfl⟩
                              replace H : (spec_l91Net.j3 k3 (wrap64 (2 + t104)) (y143.set (t138 : Int).toNat (⟨(rd_T32 x7_3 0).f0, (rd_T32 x7_3 0).f1, (rd_T32 x7_3 0).f2, (rd_T32 x7_3 0).f3⟩ : S32)) s0_0 t139) = some (r1, r2, r3) := by first | (rw [hy143]; with_reducible exact H) | (have H2_ := (Option.bind_some _ _).symm.trans H; rw [hy143]; with_reducible exact H2_) | (have H2_ := (Option.bind_some _ _).symm.trans H; with_reducible exact H2_) | with_reducible exact H | (rw [hy143]; exact H) | exact H
                              have Ny143 := Aside0.mk hy143
                              clear hy143
                              obtain ⟨y144, hy144⟩ : ∃ y_ : List (S32), y_ = (y143.set (t138 : Int).toNat (⟨(rd_T32 x7_3 0).f0, (rd_T32 x7_3 0).f1, (rd_T32 x7_3 0).f2, (rd_T32 x7_3 0).f3⟩ : S32)) := ⟨_, rfl⟩
                              replace H : (spec_l91Net.j3 k3 (wrap64 (2 + t104)) y144 s0_0 t139) = some (r1, r2, r3) := by first | (rw [hy144]; with_reducible exact H) | (have H2_ := (Option.bind_some _ _).symm.trans H; rw [hy144]; with_reducible exact H2_) | (have H2_ := (Option.bind_some _ _).symm.trans H; with_reducible exact H2_) | with_reducible exact H | (rw [hy144]; exact H) | exact H
                              have Ny144 := Aside0.mk hy144
                              clear hy144
                              have H' := Aside0.mk H
                              clear H
                              go_wp2_with (first | ((with_reducible refine gate_callee (f := 36) rfl ?_); refine goesL_ (some 108) rfl rfl Try.func36 (by kernel_rfl) rfl #[.pointer (some ⟨g, 0, none⟩), .int .i64 (x7_3.length : Int)] rfl qq5 ?_; (with_reducible refine (spec_l6Rd_pick.calls k3 g s0_0 x1001_3 (x7_3.length : Int) t138 t139 w0 _ ?side1 ?side2 A53.out).mono ?_); (case side1 => exact qq9); (case side2 => exact qq8); rintro e w59 ⟨rfl, hi, hb, hk⟩; refine ⟨_, rfl, ?_⟩; have n0_ := Aside0.mk (Kd.R_mono (Kd.R_keep (IsS61.apart (show IsS61 w0 _ g s0_0 x1001_3 from by repeat (first | (with_reducible first | exact HI0.out | apply IsS61.alloc | apply IsS61.drewN | apply IsS61.drew | apply IsS61.set_1) | exact HI0.out)) (qq2 HO_7.out) (by decide)) hk (fun _ h => h.2)) (fun _ h => h.1)); have n1_ := Aside0.mk (KeepBut.trans qq6 hk (.inl rfl)); have n2_ := Aside0.mk (hb); have n3_ := Aside0.mk (hi); clear HO_7; clear HK; clear HB; clear HI0; have HO_7 := n0_; have HK := n1_; have HB := n2_; have HI0 := n3_; clear n0_ n1_ n2_ n3_; (try clear hb); (try clear hb2); (try clear hk); (try clear hi); have p140 : 0 ≤ (0 : Int) := (by omega); have q140 : 0 < (x7_3.length : Int) := of_decide_eq_true qq3; obtain ⟨ad140, e140, hx140_0, hx140_1, hx140_2, hx140_3⟩ := at_T32 (Kd.R_reads' HO_7.out).2.2 0 p140 q140; cases e140; have qi140 : (0 < x7_3.length) = True := eq_true (by omega); (try rw [show ((0 : Int)).toNat = 0 from rfl] at hx140_0); (try rw [show 0 * 4 = 0 from rfl] at hx140_0); (try rw [Addr.add_zero'] at hx140_0); (try rw [show ((0 : Int)).toNat = 0 from rfl] at hx140_1); (try rw [show 0 * 4 = 0 from rfl] at hx140_1); (try rw [Addr.add_zero'] at hx140_1); (try rw [show ((0 : Int)).toNat = 0 from rfl] at hx140_2); (try rw [show 0 * 4 = 0 from rfl] at hx140_2); (try rw [Addr.add_zero'] at hx140_2); (try rw [show ((0 : Int)).toNat = 0 from rfl] at hx140_3); (try rw [show 0 * 4 = 0 from rfl] at hx140_3); (try rw [Addr.add_zero'] at hx140_3); replace p140 := eq_true p140; replace q140 := eq_true q140) | ((with_reducible refine gate_dst (N := 16) rfl ?_); refine box_event ?hg (N := 16) ?hd (cs := #[.int .i64 0, .int .i64 0, .int .i64 0, .int .i64 0]) (t := 32) ?hr ?_; (case hd => rfl); (case hg => rfl); (case hr => exact qq16); intro gb141 hg w60 hbox hb; have n0_ := Aside0.mk (Kd.R_below (Kd.R_elderB (qq2 HO_7.out) gb141 (Nat.le_of_eq hg.symm)) hb); have n1_ := Aside0.mk (IsS61.below qq9 hb); have n2_ := Aside0.mk (KeepBut.trans qq6 (KeepBut.of_below hb g none) (.inl rfl)); have n3_ := Aside0.mk (below_step qq8 hb); have n4_ := Aside0.mk (hbox); have n5_ := Aside0.mk ((qq64 : w.heap.size ≤ gb141)); have n6_ := Aside0.mk ((Nat.le_trans HW0.out (qq64 : w.heap.size ≤ gb141) : w0.heap.size ≤ gb141)); have n7_ := Aside0.mk ((by rw [hg]; exact Nat.ne_of_lt (IsS61.lt (show IsS61 w0 _ g s0_0 t139 from by repeat (first | (with_reducible first | exact HI0.out | apply IsS61.alloc | apply IsS61.drewN | apply IsS61.drew | apply IsS61.set_1) | exact HI0.out))) : g ≠ gb141)); have n8_ := Aside0.mk ((by rw [hg]; exact Nat.ne_of_gt (IsS61.lt (show IsS61 w0 _ g s0_0 t139 from by repeat (first | (with_reducible first | exact HI0.out | apply IsS61.alloc | apply IsS61.drewN | apply IsS61.drew | apply IsS61.set_1) | exact HI0.out))) : gb141 ≠ g)); clear HO_7; clear HI0; clear HK; clear HB; have HO_7 := n0_; have HI0 := n1_; have HK := n2_; have HB := n3_; have BK141 := n4_; have GW141 := n5_; have GE141 := n6_; have NB0_141 := n7_; have NB141_0 := n8_; clear n0_ n1_ n2_ n3_ n4_ n5_ n6_ n7_ n8_; clear hb hbox hg; have hnb61 := NB141_0.out; have hnc61 := NB0_141.out; have hcz62_0 : w60.cell? ⟨gb141, 0, none⟩ = some (.int .i64 0) := (blk_cell BK141.out 0).trans rfl; have hcz62_1 : w60.cell? ⟨gb141, 1, none⟩ = some (.int .i64 0) := (blk_cell BK141.out 1).trans rfl; have hcz62_2 : w60.cell? ⟨gb141, 2, none⟩ = some (.int .i64 0) := (blk_cell BK141.out 2).trans rfl; have hcz62_3 : w60.cell? ⟨gb141, 3, none⟩ = some (.int .i64 0) := (blk_cell BK141.out 3).trans rfl; have hfz62_0 := blk_frozen BK141.out 0; have hfz62_1 := blk_frozen BK141.out 1; have hfz62_2 := blk_frozen BK141.out 2; have hfz62_3 := blk_frozen BK141.out 3) | ((with_reducible refine gate_store (t := 32) (p := 16) rfl ?_); refine store_event (t := 32) (p := 16) (v := ?vo_w63) (w1 := ((((w60.setCell ⟨gb141, 0, none⟩ (.int .i64 ((rd_T32 x7_3 0).f0))).setCell ⟨gb141, 1, none⟩ (.int .i64 ((rd_T32 x7_3 0).f1))).setCell ⟨gb141, 2, none⟩ (.int .i64 ((rd_T32 x7_3 0).f2))).setCell ⟨gb141, 3, none⟩ (.int .i64 ((rd_T32 x7_3 0).f3)))) ?hg ?ho ?hn ?hr ?_; (case ho => rfl); (case hg => rfl); (case hn => rfl); (case hr => exact qq16); intro w63 hw; have n0_ : Aside0 (Kd.R k32 32 w63 w.heap.size (fun k_ => k_ ≠ gb141) (.slice (some ad140) x7_3.length co51) x7_3) := ⟨(by rw [hw]; exact (by (with_reducible repeat (first | apply Kd.R_alloc | apply Kd.R_drewN | apply Kd.R_drew)); exact Kd.R_mono (Kd.R_far (p := ⟨gb141, 3, none⟩) (Kd.R_far (p := ⟨gb141, 2, none⟩) (Kd.R_far (p := ⟨gb141, 1, none⟩) (Kd.R_far (p := ⟨gb141, 0, none⟩) (Kd.R_mono HO_7.out (fun k_ hk => (⟨hk, hk.2⟩ : _ ∧ k_ ≠ gb141))) (fun _ hk => hk.2) (.int .i64 ((rd_T32 x7_3 0).f0))) (fun _ hk => hk.2) (.int .i64 ((rd_T32 x7_3 0).f1))) (fun _ hk => hk.2) (.int .i64 ((rd_T32 x7_3 0).f2))) (fun _ hk => hk.2) (.int .i64 ((rd_T32 x7_3 0).f3))) (fun _ hk => hk.1.2)))⟩; have n1_ : Aside0 (w63.heap[gb141]? = some (.cells #[.int .i64 ((rd_T32 x7_3 0).f0), .int .i64 ((rd_T32 x7_3 0).f1), .int .i64 ((rd_T32 x7_3 0).f2), .int .i64 ((rd_T32 x7_3 0).f3)] 32 (0, 0))) := ⟨(by rw [hw]; exact (by (with_reducible repeat (first | refine blk_drewN ?_ _ | refine blk_drew ?_ | refine blk_alloc ?_ _)); refine blk_put (cs := #[.int .i64 ((rd_T32 x7_3 0).f0), .int .i64 ((rd_T32 x7_3 0).f1), .int .i64 ((rd_T32 x7_3 0).f2), .int .i64 0]) ?_ 3 _ rfl; (with_reducible repeat (first | refine blk_drewN ?_ _ | refine blk_drew ?_ | refine blk_alloc ?_ _)); refine blk_put (cs := #[.int .i64 ((rd_T32 x7_3 0).f0), .int .i64 ((rd_T32 x7_3 0).f1), .int .i64 0, .int .i64 0]) ?_ 2 _ rfl; (with_reducible repeat (first | refine blk_drewN ?_ _ | refine blk_drew ?_ | refine blk_alloc ?_ _)); refine blk_put (cs := #[.int .i64 ((rd_T32 x7_3 0).f0), .int .i64 0, .int .i64 0, .int .i64 0]) ?_ 1 _ rfl; (with_reducible repeat (first | refine blk_drewN ?_ _ | refine blk_drew ?_ | refine blk_alloc ?_ _)); refine blk_put (cs := #[.int .i64 0, .int .i64 0, .int .i64 0, .int .i64 0]) ?_ 0 _ rfl; (with_reducible repeat (first | refine blk_drewN ?_ _ | refine blk_drew ?_ | refine blk_alloc ?_ _)); exact BK141.out))⟩; have n2_ : Aside0 (IsS61 w0 w63 g s0_0 t139) := ⟨(by rw [hw]; exact (qq25 HI0.out NB0_141.out))⟩; have n3_ : Aside0 (KeepBut w w63 g none) := ⟨(by rw [hw]; exact (qq28 HK.out GW141.out))⟩; have n4_ : Aside0 (Below w0.heap.size w0 w63) := ⟨(by rw [hw]; exact (qq51 HB.out HI0.out GE141.out))⟩; clear hw; clear HO_7; clear BK141; clear HI0; clear HK; clear HB; have HO_7 := n0_; have BK141 := n1_; have HI0 := n2_; have HK := n3_; have HB := n4_; clear n0_ n1_ n2_ n3_ n4_; have p142 : 0 ≤ (t138 : Int) := of_decide_eq_true qq3; have q142 : t138 < (x7_3.length : Int) := of_decide_eq_true qq3; obtain ⟨ad142, e142, hx142_0, hx142_1, hx142_2, hx142_3⟩ := at_T32 (Kd.R_reads' HO_7.out).2.2 t138 p142 q142; obtain rfl : ad140 = ad142 := (by injection e142); replace p142 := eq_true p142; replace q142 := eq_true q142; have p57 : 0 ≤ (0 : Int) := (by omega); have q57 : (0 : Int) < ((x7_3.length : Int) : Int) := of_decide_eq_true qq3; have qi57 : (0 < x7_3.length) = True := eq_true (by omega); obtain ⟨go57, co57, eo57, gb57, gl57, cl57, HG57⟩ := Kd.R_form HO_7.out (by omega); (first | cases eo57 | (injection eo57 with ea_ en_ ec_; (first | subst ea_ | (injection ea_ with ea_; subst ea_)); subst ec_; clear en_)); have GB57 := Aside0.mk gb57; have GG57 := Aside0.mk HG57; clear gb57 gl57 HG57; (first | simp only [add_plain] at hx140_0 | skip); (first | simp only [add_plain] at hx140_1 | skip); (first | simp only [add_plain] at hx140_2 | skip); (first | simp only [add_plain] at hx140_3 | skip); (first | simp only [add_plain] at hx142_0 | skip); (first | simp only [add_plain] at hx142_1 | skip); (first | simp only [add_plain] at hx142_2 | skip); (first | simp only [add_plain] at hx142_3 | skip); obtain ⟨ce57, hcl57, hM57, hcc57, hfr57⟩ := Kd.R_elem HO_7.out z32 (0 : Int) p57 q57; obtain rfl := k32_openM hM57; have hx57_0 : w63.cell? ⟨go57, (0 : Int).toNat * 4, none⟩ = some (.int .i64 ((rd_T32 x7_3 0).f0)) := hcc57 0 _ rfl; have hx57_1 : w63.cell? ⟨go57, (0 : Int).toNat * 4 + 1, none⟩ = some (.int .i64 ((rd_T32 x7_3 0).f1)) := hcc57 1 _ rfl; have hx57_2 : w63.cell? ⟨go57, (0 : Int).toNat * 4 + 2, none⟩ = some (.int .i64 ((rd_T32 x7_3 0).f2)) := hcc57 2 _ rfl; have hx57_3 : w63.cell? ⟨go57, (0 : Int).toNat * 4 + 3, none⟩ = some (.int .i64 ((rd_T32 x7_3 0).f3)) := hcc57 3 _ rfl; have hf57_0 : w63.frozen? ⟨go57, (0 : Int).toNat * 4, none⟩ = false := hfr57 0; have hf57_1 : w63.frozen? ⟨go57, (0 : Int).toNat * 4 + 1, none⟩ = false := hfr57 1; have hf57_2 : w63.frozen? ⟨go57, (0 : Int).toNat * 4 + 2, none⟩ = false := hfr57 2; have hf57_3 : w63.frozen? ⟨go57, (0 : Int).toNat * 4 + 3, none⟩ = false := hfr57 3; clear hcl57 hcc57 hfr57; (try clear hM57); (try rw [show ((0 : Int)).toNat = 0 from rfl] at hx57_0); (try simp only [Nat.reduceMul, Nat.zero_mul, Nat.zero_add, Nat.reduceAdd] at hx57_0); (try rw [show ((0 : Int)).toNat = 0 from rfl] at hf57_0); (try simp only [Nat.reduceMul, Nat.zero_mul, Nat.zero_add, Nat.reduceAdd] at hf57_0); (try rw [show ((0 : Int)).toNat = 0 from rfl] at hx57_1); (try simp only [Nat.reduceMul, Nat.zero_mul, Nat.zero_add, Nat.reduceAdd] at hx57_1); (try rw [show ((0 : Int)).toNat = 0 from rfl] at hf57_1); (try simp only [Nat.reduceMul, Nat.zero_mul, Nat.zero_add, Nat.reduceAdd] at hf57_1); (try rw [show ((0 : Int)).toNat = 0 from rfl] at hx57_2); (try simp only [Nat.reduceMul, Nat.zero_mul, Nat.zero_add, Nat.reduceAdd] at hx57_2); (try rw [show ((0 : Int)).toNat = 0 from rfl] at hf57_2); (try simp only [Nat.reduceMul, Nat.zero_mul, Nat.zero_add, Nat.reduceAdd] at hf57_2); (try rw [show ((0 : Int)).toNat = 0 from rfl] at hx57_3); (try simp only [Nat.reduceMul, Nat.zero_mul, Nat.zero_add, Nat.reduceAdd] at hx57_3); (try rw [show ((0 : Int)).toNat = 0 from rfl] at hf57_3); (try simp only [Nat.reduceMul, Nat.zero_mul, Nat.zero_add, Nat.reduceAdd] at hf57_3); replace p57 := eq_true p57; replace q57 := eq_true q57; have HX64 := Aside0.mk (show Kd.R k32 32 w63 w.heap.size (fun k_ => k_ ≠ gb141) (.slice (some ⟨go57, 0, none⟩) x7_3.length co51) x7_3 from (qq2 HO_7.out)); obtain ⟨ce64, hcl64, hM64, hcc64, hfr64⟩ := Kd.R_elem HX64.out z32 (0 : Int) (by omega) (by have h_ : (0 : Int) < ((x7_3.length : Int) : Int) := of_decide_eq_true qq3; first | exact h_ | (have e_ := (Kd.R_reads' HO_7.out).1; omega) | simpa using h_); obtain rfl := k32_openM hM64; have HP64 := Kd.R_seg HX64.out (0 : Int) (by omega) (by have h_ : (0 : Int) < ((x7_3.length : Int) : Int) := of_decide_eq_true qq3; first | exact h_ | (have e_ := (Kd.R_reads' HO_7.out).1; omega) | simpa using h_) (seg := [.int .i64 ((rd_T32 x7_3 t138).f0), .int .i64 ((rd_T32 x7_3 t138).f1), .int .i64 ((rd_T32 x7_3 t138).f2), .int .i64 ((rd_T32 x7_3 t138).f3)]) (j := 0) hcl64 hcc64 (show 4 ≤ 4 from by decide) (x' := (⟨(rd_T32 x7_3 t138).f0, (rd_T32 x7_3 t138).f1, (rd_T32 x7_3 t138).f2, (rd_T32 x7_3 t138).f3⟩ : S32)) (k32_mkM _ _ _ (⟨(rd_T32 x7_3 t138).f0, (rd_T32 x7_3 t138).f1, (rd_T32 x7_3 t138).f2, (rd_T32 x7_3 t138).f3⟩ : S32) ) (fun _ hk => hk); have hx64_0 := hcc64 0 _ rfl; (try simp only [show (k32).sz = 4 from rfl, Nat.mul_one, Nat.add_zero] at hx64_0); (try rw [show ((0 : Int)).toNat = 0 from rfl] at hx64_0); (try simp only [Nat.reduceMul, Nat.zero_mul, Nat.zero_add, Nat.reduceAdd] at hx64_0); have hf64_0 := hfr64 0; (try simp only [show (k32).sz = 4 from rfl, Nat.mul_one, Nat.add_zero] at hf64_0); (try rw [show ((0 : Int)).toNat = 0 from rfl] at hf64_0); (try simp only [Nat.reduceMul, Nat.zero_mul, Nat.zero_add, Nat.reduceAdd] at hf64_0); have hx64_1 := hcc64 1 _ rfl; (try simp only [show (k32).sz = 4 from rfl, Nat.mul_one, Nat.add_zero] at hx64_1); (try rw [show ((0 : Int)).toNat = 0 from rfl] at hx64_1); (try simp only [Nat.reduceMul, Nat.zero_mul, Nat.zero_add, Nat.reduceAdd] at hx64_1); have hf64_1 := hfr64 1; (try simp only [show (k32).sz = 4 from rfl, Nat.mul_one, Nat.add_zero] at hf64_1); (try rw [show ((0 : Int)).toNat = 0 from rfl] at hf64_1); (try simp only [Nat.reduceMul, Nat.zero_mul, Nat.zero_add, Nat.reduceAdd] at hf64_1); have hx64_2 := hcc64 2 _ rfl; (try simp only [show (k32).sz = 4 from rfl, Nat.mul_one, Nat.add_zero] at hx64_2); (try rw [show ((0 : Int)).toNat = 0 from rfl] at hx64_2); (try simp only [Nat.reduceMul, Nat.zero_mul, Nat.zero_add, Nat.reduceAdd] at hx64_2); have hf64_2 := hfr64 2; (try simp only [show (k32).sz = 4 from rfl, Nat.mul_one, Nat.add_zero] at hf64_2); (try rw [show ((0 : Int)).toNat = 0 from rfl] at hf64_2); (try simp only [Nat.reduceMul, Nat.zero_mul, Nat.zero_add, Nat.reduceAdd] at hf64_2); have hx64_3 := hcc64 3 _ rfl; (try simp only [show (k32).sz = 4 from rfl, Nat.mul_one, Nat.add_zero] at hx64_3); (try rw [show ((0 : Int)).toNat = 0 from rfl] at hx64_3); (try simp only [Nat.reduceMul, Nat.zero_mul, Nat.zero_add, Nat.reduceAdd] at hx64_3); have hf64_3 := hfr64 3; (try simp only [show (k32).sz = 4 from rfl, Nat.mul_one, Nat.add_zero] at hf64_3); (try rw [show ((0 : Int)).toNat = 0 from rfl] at hf64_3); (try simp only [Nat.reduceMul, Nat.zero_mul, Nat.zero_add, Nat.reduceAdd] at hf64_3); clear hcl64 hcc64 hfr64; (try clear hM64)) | ((with_reducible refine gate_store (t := 32) (p := 117) rfl ?_); refine store_event (t := 32) (p := 117) (v := ?vo_w65) (w1 := ((((w63.setCell ⟨go57, 0, none⟩ (.int .i64 ((rd_T32 x7_3 t138).f0))).setCell ⟨go57, 1, none⟩ (.int .i64 ((rd_T32 x7_3 t138).f1))).setCell ⟨go57, 2, none⟩ (.int .i64 ((rd_T32 x7_3 t138).f2))).setCell ⟨go57, 3, none⟩ (.int .i64 ((rd_T32 x7_3 t138).f3)))) ?hg ?ho ?hn ?hr ?_; (case ho => rfl); (case hg => rfl); (case hn => rfl); (case hr => exact qq16); intro w65 hw; have hg : w63.grownBy w65 (some go57) := (by rw [hw]; exact HP64.2); have hp_ : Kd.R k32 32 w65 w.heap.size (fun k_ => k_ ≠ gb141) (.slice (some ⟨go57, 0, none⟩) x7_3.length co51) y143 := (by rw [hw, Ny143.out]; exact HP64.1); clear HP64; have n0_ := Aside0.mk (hp_); have n1_ := Aside0.mk (IsS61.grown (qq25 HI0.out NB0_141.out) hg (IsS61.own_ne HI0.out HO_7.out (by decide))); have n2_ := Aside0.mk (blk_grown (g := gb141) (o := .cells #[.int .i64 ((rd_T32 x7_3 0).f0), .int .i64 ((rd_T32 x7_3 0).f1), .int .i64 ((rd_T32 x7_3 0).f2), .int .i64 ((rd_T32 x7_3 0).f3)] 32 (0, 0)) (qq23 BK141.out) hg (Kd.R_away HO_7.out (fun _ hk => hk))); have n3_ := Aside0.mk ((qq56 HB.out HL.out GB57.out : Below w0.heap.size w0 w65)); have n4_ := Aside0.mk (KeepBut.trans (qq28 HK.out GW141.out) (KeepBut.of_grown hg g) (Kd.R_base2 HO_7.out)); clear HO_7; clear HI0; clear BK141; clear HB; clear HK; have HO_7 := n0_; have HI0 := n1_; have BK141 := n2_; have HB := n3_; have HK := n4_; clear n0_ n1_ n2_ n3_ n4_; clear hg hw hp_; have hcz66_0 : w65.cell? ⟨gb141, 0, none⟩ = some (.int .i64 ((rd_T32 x7_3 0).f0)) := (blk_cell BK141.out 0).trans rfl; have hcz66_1 : w65.cell? ⟨gb141, 1, none⟩ = some (.int .i64 ((rd_T32 x7_3 0).f1)) := (blk_cell BK141.out 1).trans rfl; have hcz66_2 : w65.cell? ⟨gb141, 2, none⟩ = some (.int .i64 ((rd_T32 x7_3 0).f2)) := (blk_cell BK141.out 2).trans rfl; have hcz66_3 : w65.cell? ⟨gb141, 3, none⟩ = some (.int .i64 ((rd_T32 x7_3 0).f3)) := (blk_cell BK141.out 3).trans rfl; have hfz66_0 := blk_frozen BK141.out 0; have hfz66_1 := blk_frozen BK141.out 1; have hfz66_2 := blk_frozen BK141.out 2; have hfz66_3 := blk_frozen BK141.out 3; have p58 : 0 ≤ (t138 : Int) := of_decide_eq_true qq3; have q58 : (t138 : Int) < ((x7_3.length : Int) : Int) := of_decide_eq_true qq3; obtain ⟨ce58, hcl58, hM58, hcc58, hfr58⟩ := Kd.R_elem HO_7.out z32 (t138 : Int) p58 q58; obtain rfl := k32_openM hM58; have hx58_0 : w65.cell? ⟨go57, (t138 : Int).toNat * 4, none⟩ = some (.int .i64 ((rd_T32 y143 t138).f0)) := hcc58 0 _ rfl; have hx58_1 : w65.cell? ⟨go57, (t138 : Int).toNat * 4 + 1, none⟩ = some (.int .i64 ((rd_T32 y143 t138).f1)) := hcc58 1 _ rfl; have hx58_2 : w65.cell? ⟨go57, (t138 : Int).toNat * 4 + 2, none⟩ = some (.int .i64 ((rd_T32 y143 t138).f2)) := hcc58 2 _ rfl; have hx58_3 : w65.cell? ⟨go57, (t138 : Int).toNat * 4 + 3, none⟩ = some (.int .i64 ((rd_T32 y143 t138).f3)) := hcc58 3 _ rfl; have hf58_0 : w65.frozen? ⟨go57, (t138 : Int).toNat * 4, none⟩ = false := hfr58 0; have hf58_1 : w65.frozen? ⟨go57, (t138 : Int).toNat * 4 + 1, none⟩ = false := hfr58 1; have hf58_2 : w65.frozen? ⟨go57, (t138 : Int).toNat * 4 + 2, none⟩ = false := hfr58 2; have hf58_3 : w65.frozen? ⟨go57, (t138 : Int).toNat * 4 + 3, none⟩ = false := hfr58 3; clear hcl58 hcc58 hfr58; (try clear hM58); replace p58 := eq_true p58; replace q58 := eq_true q58; have HX67 := Aside0.mk (show Kd.R k32 32 w65 w.heap.size (fun k_ => k_ ≠ gb141) (.slice (some ⟨go57, 0, none⟩) x7_3.length co51) y143 from (qq2 HO_7.out)); obtain ⟨ce67, hcl67, hM67, hcc67, hfr67⟩ := Kd.R_elem HX67.out z32 (t138 : Int) (of_decide_eq_true qq3) (by have h_ : (t138 : Int) < ((x7_3.length : Int) : Int) := of_decide_eq_true qq3; first | exact h_ | (have e_ := (Kd.R_reads' HO_7.out).1; omega) | simpa using h_); obtain rfl := k32_openM hM67; have HP67 := Kd.R_seg HX67.out (t138 : Int) (of_decide_eq_true qq3) (by have h_ : (t138 : Int) < ((x7_3.length : Int) : Int) := of_decide_eq_true qq3; first | exact h_ | (have e_ := (Kd.R_reads' HO_7.out).1; omega) | simpa using h_) (seg := [.int .i64 ((rd_T32 x7_3 0).f0), .int .i64 ((rd_T32 x7_3 0).f1), .int .i64 ((rd_T32 x7_3 0).f2), .int .i64 ((rd_T32 x7_3 0).f3)]) (j := 0) hcl67 hcc67 (show 4 ≤ 4 from by decide) (x' := (⟨(rd_T32 x7_3 0).f0, (rd_T32 x7_3 0).f1, (rd_T32 x7_3 0).f2, (rd_T32 x7_3 0).f3⟩ : S32)) (k32_mkM _ _ _ (⟨(rd_T32 x7_3 0).f0, (rd_T32 x7_3 0).f1, (rd_T32 x7_3 0).f2, (rd_T32 x7_3 0).f3⟩ : S32) ) (fun _ hk => hk); have hx67_0 := hcc67 0 _ rfl; (try simp only [show (k32).sz = 4 from rfl, Nat.mul_one, Nat.add_zero] at hx67_0); have hf67_0 := hfr67 0; (try simp only [show (k32).sz = 4 from rfl, Nat.mul_one, Nat.add_zero] at hf67_0); have hx67_1 := hcc67 1 _ rfl; (try simp only [show (k32).sz = 4 from rfl, Nat.mul_one, Nat.add_zero] at hx67_1); have hf67_1 := hfr67 1; (try simp only [show (k32).sz = 4 from rfl, Nat.mul_one, Nat.add_zero] at hf67_1); have hx67_2 := hcc67 2 _ rfl; (try simp only [show (k32).sz = 4 from rfl, Nat.mul_one, Nat.add_zero] at hx67_2); have hf67_2 := hfr67 2; (try simp only [show (k32).sz = 4 from rfl, Nat.mul_one, Nat.add_zero] at hf67_2); have hx67_3 := hcc67 3 _ rfl; (try simp only [show (k32).sz = 4 from rfl, Nat.mul_one, Nat.add_zero] at hx67_3); have hf67_3 := hfr67 3; (try simp only [show (k32).sz = 4 from rfl, Nat.mul_one, Nat.add_zero] at hf67_3); clear hcl67 hcc67 hfr67; (try clear hM67)) | ((with_reducible refine gate_store (t := 32) (p := 121) rfl ?_); refine store_event (t := 32) (p := 121) (v := ?vo_w68) (w1 := ((((w65.setCell ⟨go57, (t138 : Int).toNat * 4, none⟩ (.int .i64 ((rd_T32 x7_3 0).f0))).setCell ⟨go57, (t138 : Int).toNat * 4 + 1, none⟩ (.int .i64 ((rd_T32 x7_3 0).f1))).setCell ⟨go57, (t138 : Int).toNat * 4 + 2, none⟩ (.int .i64 ((rd_T32 x7_3 0).f2))).setCell ⟨go57, (t138 : Int).toNat * 4 + 3, none⟩ (.int .i64 ((rd_T32 x7_3 0).f3)))) ?hg ?ho ?hn ?hr ?_; (case ho => rfl); (case hg => rfl); (case hn => rfl); (case hr => exact qq16); intro w68 hw; have hg : w65.grownBy w68 (some go57) := (by rw [hw]; exact HP67.2); have hp_ : Kd.R k32 32 w68 w.heap.size (fun k_ => k_ ≠ gb141) (.slice (some ⟨go57, 0, none⟩) x7_3.length co51) y144 := (by rw [hw, Ny144.out]; exact HP67.1); clear HP67; have n0_ := Aside0.mk (hp_); have n1_ := Aside0.mk (IsS61.grown (qq25 HI0.out NB0_141.out) hg (IsS61.own_ne HI0.out HO_7.out (by decide))); have n2_ := Aside0.mk (blk_grown (g := gb141) (o := .cells #[.int .i64 ((rd_T32 x7_3 0).f0), .int .i64 ((rd_T32 x7_3 0).f1), .int .i64 ((rd_T32 x7_3 0).f2), .int .i64 ((rd_T32 x7_3 0).f3)] 32 (0, 0)) (qq23 BK141.out) hg (Kd.R_away HO_7.out (fun _ hk => hk))); have n3_ := Aside0.mk ((qq56 HB.out HL.out GB57.out : Below w0.heap.size w0 w68)); have n4_ := Aside0.mk (KeepBut.trans (qq28 HK.out GW141.out) (KeepBut.of_grown hg g) (Kd.R_base2 HO_7.out)); clear HO_7; clear HI0; clear BK141; clear HB; clear HK; have HO_7 := n0_; have HI0 := n1_; have BK141 := n2_; have HB := n3_; have HK := n4_; clear n0_ n1_ n2_ n3_ n4_; clear hg hw hp_))
                              go_meet
                              case rel => exact ⟨_, (y144), (t139), H', ⟨qq79⟩, ⟨qq17 HO_7.out⟩, ⟨qq25 HI0.out NB0_141.out⟩, ⟨qq28 HK.out GW141.out⟩, ⟨qq51 HB.out HI0.out GE141.out⟩⟩
                            · rw [if_neg c56] at H
                              exact absurd H (by simp)
                          · rw [if_neg c55] at H
                            exact absurd H (by simp)
                        · rw [if_neg c54] at H
                          exact absurd H (by simp)
                      · rw [if_neg c52] at H
                        have c52b0 : decide (1 < (x7_3.length : Int)) = false := decide_eq_false c52
                        have c52b1 : decide (1 < x7_3.length) = false := decide_eq_false (by omega)
                        clear c52
                        (first | rw [c52b0] | (simp only [i64_w, i32_w]; rw [c52b0]) | skip)
                        have H' := Aside0.mk H
                        clear H
                        go_wp2
                        go_meet
                        case rel => exact ⟨_, (x7_3), (x1001_3), H', ⟨qq79⟩, ⟨qq2 HO_7.out⟩, ⟨qq9⟩, ⟨qq6⟩, ⟨qq8⟩⟩
                    case rest =>
                      clear HC50
                      try clear c1
                      try clear p1
                      try clear q1
                      try clear hx1
                      try clear qi1
                      try clear c2
                      try clear p2
                      try clear c3
                      try clear p3
                      try clear q3
                      try clear hx3
                      try clear hf3
                      try clear c4
                      try clear hx4
                      try clear hf4
                      try clear c5
                      try clear p5
                      try clear q5
                      try clear hx5
                      try clear qi5
                      try clear hf5
                      try clear c6
                      try clear p6
                      try clear hx6
                      try clear hf6
                      try clear c7
                      try clear c7b0
                      try clear c9
                      try clear c9b0
                      try clear c13
                      try clear p13
                      try clear q13
                      try clear hx13
                      try clear p14
                      try clear q14
                      try clear hx14
                      try clear qi14
                      try clear c22
                      try clear c22b0
                      try clear c25
                      try clear c25b0
                      try clear c25b1
                      try clear c28
                      try clear c34
                      try clear c34b0
                      try clear c36
                      try clear c36b0
                      try clear c36b1
                      try clear c37
                      try clear c37b0
                      try clear c38
                      try clear p38
                      try clear q38
                      try clear hx38
                      try clear hf38
                      try clear c42
                      try clear c44
                      try clear c46
                      try clear hx46
                      try clear hf46
                      try clear c52
                      try clear c52b0
                      try clear c52b1
                      try clear c54
                      try clear c54b0
                      try clear c54b1
                      try clear c55
                      try clear c55b0
                      try clear c56
                      try clear c56b0
                      try clear c57
                      try clear p57
                      try clear q57
                      try clear hx57
                      try clear qi57
                      try clear hf57
                      try clear c58
                      try clear p58
                      try clear q58
                      try clear hx58
                      try clear hf58
                      try clear c61
                      try clear c64
                      try clear p64
                      try clear hx64
                      try clear hf64
                      try clear c67
                      try clear hx67
                      try clear hf67
                      try clear hcz43_0
                      try clear hcz43_1
                      try clear hcz43_2
                      try clear hcz43_3
                      try clear hcz45_0
                      try clear hcz45_1
                      try clear hcz45_2
                      try clear hcz45_3
                      try clear hcz62_0
                      try clear hcz62_1
                      try clear hcz62_2
                      try clear hcz62_3
                      try clear hcz66_0
                      try clear hcz66_1
                      try clear hcz66_2
                      try clear hcz66_3
                      try clear hfz43_0
                      try clear hfz43_1
                      try clear hfz43_2
                      try clear hfz43_3
                      try clear hfz45_0
                      try clear hfz45_1
                      try clear hfz45_2
                      try clear hfz45_3
                      try clear hfz62_0
                      try clear hfz62_1
                      try clear hfz62_2
                      try clear hfz62_3
                      try clear hfz66_0
                      try clear hfz66_1
                      try clear hfz66_2
                      try clear hfz66_3
                      try clear hx135_0
                      try clear hx135_1
                      try clear hx135_2
                      try clear hx135_3
                      try clear hx140_0
                      try clear hx140_1
                      try clear hx140_2
                      try clear hx140_3
                      try clear hx142_0
                      try clear hx142_1
                      try clear hx142_2
                      try clear hx142_3
                      try clear hx38_0
                      try clear hx38_1
                      try clear hx38_2
                      try clear hx38_3
                      try clear hx46_0
                      try clear hx46_1
                      try clear hx46_2
                      try clear hx46_3
                      try clear hx57_0
                      try clear hx57_1
                      try clear hx57_2
                      try clear hx57_3
                      try clear hx58_0
                      try clear hx58_1
                      try clear hx58_2
                      try clear hx58_3
                      try clear hx64_0
                      try clear hx64_1
                      try clear hx64_2
                      try clear hx64_3
                      try clear hx67_0
                      try clear hx67_1
                      try clear hx67_2
                      try clear hx67_3
                      try clear p135
                      try clear p140
                      try clear p142
                      try clear p2
                      try clear p38
                      try clear p57
                      try clear p58
                      try clear p6
                      try clear q135
                      try clear q140
                      try clear q142
                      try clear q38
                      try clear q57
                      try clear q58
                      obtain ⟨kq, x7_49, x1001_49, HA, HJ49, HO_7, HI0, HK, HB⟩ := hcut
                      have hl7_49 := (Kd.R_reads' HO_7.out).1
                      rw [hl7_49] at HO_7
                      (try simp only [hl7_49])
                      cases kq with
                      | zero => exact absurd HA.out (by simp [spec_l91Net.j3])
                      | succ kj49 =>
                        have H := HA.out
                        clear HA
                        simp only [spec_l91Net.j3] at H
                        by_cases c69 : (x7_49.length : Int) > 0
                        · rw [if_pos c69] at H
                          have c69b0 : decide (0 < (x7_49.length : Int)) = true := decide_eq_true c69
                          have c69b1 : decide (0 < x7_49.length) = true := decide_eq_true (by omega)
                          clear c69
                          replace H := Option.bind_eq_some_iff.mp H
                          obtain ⟨⟨t145, t146⟩, A700, H⟩ := H
                          replace H : (if t145 = 0 then (if 0 < (x7_49.length : Int) then (some ((wrap64 (2 + t104)), (x7_49.set (0 : Int).toNat (⟨(rd_T32 x7_49 0).f0, (rd_T32 x7_49 0).f0, (rd_T32 x7_49 0).f2, (rd_T32 x7_49 0).f3⟩ : S32)), t146)) else (none)) else (if t145 = 1 then ((some (([0, 10] : List Int) : List Int)).bind fun y149 => ((spec_l6Rd_pick.f kj49 s0_0 t146 2).bind fun bt152 => (if 0 ≤ bt152.1 then (if bt152.1 < (y149.length : Int) then (if 0 < (x7_49.length : Int) then (some ((wrap64 (2 + t104)), (x7_49.set (0 : Int).toNat (⟨(rd_T32 x7_49 0).f0, (rd_T32 x7_49 0).f1, (rd_T32 x7_49 0).f2, rd y149 bt152.1⟩ : S32)), bt152.2)) else (none)) else (none)) else (none)))) else (if t145 = 2 then (if 0 < (x7_49.length : Int) then (some ((wrap64 (2 + t104)), (x7_49.set (0 : Int).toNat (⟨(rd_T32 x7_49 0).f0, (rd_T32 x7_49 0).f1, 100001, (rd_T32 x7_49 0).f3⟩ : S32)), t146)) else (none)) else (if t145 = 3 then (if 0 < (x7_49.length : Int) then (some ((wrap64 (2 + t104)), (x7_49.set (0 : Int).toNat (⟨(rd_T32 x7_49 0).f0, (wrap64 (2 + t104)), (rd_T32 x7_49 0).f2, (rd_T32 x7_49 0).f3⟩ : S32)), t146)) else (none)) else (some ((wrap64 (2 + t104)), x7_49, t146)))))) = some (r1, r2, r3) := H
                          have A70 := Aside0.mk A700
                          clear A700
                          by_cases c71 : t145 = 0
                          · rw [if_pos c71] at H
                            have c71b0 : (t145 == 0) = true := beq_iff_eq.mpr c71
                            have c71b1 : (t145 != 0) = false := bne_eq_false_iff_eq.mpr c71
                            clear c71
                            by_cases c72 : 0 < (x7_49.length : Int)
                            · rw [if_pos c72] at H
                              have c72b0 : decide (0 < (x7_49.length : Int)) = true := decide_eq_true c72
                              have c72b1 : decide (0 < x7_49.length) = true := decide_eq_true (by omega)
                              clear c72
                              obtain ⟨y148, hy148⟩ : ∃ y_ : List (S32), y_ = (x7_49.set (0 : Int).toNat (⟨(rd_T32 x7_49 0).f0, (rd_T32 x7_49 0).f0, (rd_T32 x7_49 0).f2, (rd_T32 x7_49 0).f3⟩ : S32)) := ⟨_, rfl⟩
                              replace H : (some ((wrap64 (2 + t104)), y148, t146)) = some (r1, r2, r3) := by first | (rw [hy148]; with_reducible exact H) | (have H2_ := (Option.bind_some _ _).symm.trans H; rw [hy148]; with_reducible exact H2_) | (have H2_ := (Option.bind_some _ _).symm.trans H; with_reducible exact H2_) | with_reducible exact H | (rw [hy148]; exact H) | exact H
                              have Ny148 := Aside0.mk hy148
                              clear hy148
                              simp only [Option.some.injEq, Prod.mk.injEq] at H
                              obtain ⟨rfl, rfl, rfl⟩ := H
                              go_wp2_with (first | ((with_reducible refine gate_callee (f := 36) rfl ?_); refine goesL_ (some 126) rfl rfl Try.func36 (by kernel_rfl) rfl #[.pointer (some ⟨g, 0, none⟩), .int .i64 50] rfl qq5 ?_; (with_reducible refine (spec_l6Rd_pick.calls kj49 g s0_0 x1001_49 50 t145 t146 w0 _ ?side1 ?side2 A70.out).mono ?_); (case side1 => exact qq9); (case side2 => exact qq8); rintro e w74 ⟨rfl, hi, hb, hk⟩; refine ⟨_, rfl, ?_⟩; have n0_ := Aside0.mk (Kd.R_mono (Kd.R_keep (IsS61.apart (show IsS61 w0 _ g s0_0 x1001_49 from by repeat (first | (with_reducible first | exact HI0.out | apply IsS61.alloc | apply IsS61.drewN | apply IsS61.drew | apply IsS61.set_1) | exact HI0.out)) (qq2 HO_7.out) (by decide)) hk (fun _ h => h.2)) (fun _ h => h.1)); have n1_ := Aside0.mk (KeepBut.trans qq6 hk (.inl rfl)); have n2_ := Aside0.mk (hb); have n3_ := Aside0.mk (hi); clear HO_7; clear HK; clear HB; clear HI0; have HO_7 := n0_; have HK := n1_; have HB := n2_; have HI0 := n3_; clear n0_ n1_ n2_ n3_; (try clear hb); (try clear hb2); (try clear hk); (try clear hi); have p147 : 0 ≤ (0 : Int) := (by omega); have q147 : 0 < (x7_49.length : Int) := of_decide_eq_true qq3; obtain ⟨ad147, e147, hx147_0, hx147_1, hx147_2, hx147_3⟩ := at_T32 (Kd.R_reads' HO_7.out).2.2 0 p147 q147; cases e147; have qi147 : (0 < x7_49.length) = True := eq_true (by omega); (try rw [show ((0 : Int)).toNat = 0 from rfl] at hx147_0); (try rw [show 0 * 4 = 0 from rfl] at hx147_0); (try rw [Addr.add_zero'] at hx147_0); (try rw [show ((0 : Int)).toNat = 0 from rfl] at hx147_1); (try rw [show 0 * 4 = 0 from rfl] at hx147_1); (try rw [Addr.add_zero'] at hx147_1); (try rw [show ((0 : Int)).toNat = 0 from rfl] at hx147_2); (try rw [show 0 * 4 = 0 from rfl] at hx147_2); (try rw [Addr.add_zero'] at hx147_2); (try rw [show ((0 : Int)).toNat = 0 from rfl] at hx147_3); (try rw [show 0 * 4 = 0 from rfl] at hx147_3); (try rw [Addr.add_zero'] at hx147_3); replace p147 := eq_true p147; replace q147 := eq_true q147; have p73 : 0 ≤ (0 : Int) := (by omega); have q73 : (0 : Int) < ((x7_49.length : Int) : Int) := of_decide_eq_true qq3; have qi73 : (0 < x7_49.length) = True := eq_true (by omega); obtain ⟨go73, co73, eo73, gb73, gl73, cl73, HG73⟩ := Kd.R_form HO_7.out (by omega); (first | cases eo73 | (injection eo73 with ea_ en_ ec_; (first | subst ea_ | (injection ea_ with ea_; subst ea_)); subst ec_; clear en_)); have GB73 := Aside0.mk gb73; have GG73 := Aside0.mk HG73; clear gb73 gl73 HG73; (first | simp only [add_plain] at hx147_0 | skip); (first | simp only [add_plain] at hx147_1 | skip); (first | simp only [add_plain] at hx147_2 | skip); (first | simp only [add_plain] at hx147_3 | skip); obtain ⟨ce73, hcl73, hM73, hcc73, hfr73⟩ := Kd.R_elem HO_7.out z32 (0 : Int) p73 q73; obtain rfl := k32_openM hM73; have hx73_0 : w74.cell? ⟨go73, (0 : Int).toNat * 4, none⟩ = some (.int .i64 ((rd_T32 x7_49 0).f0)) := hcc73 0 _ rfl; have hx73_1 : w74.cell? ⟨go73, (0 : Int).toNat * 4 + 1, none⟩ = some (.int .i64 ((rd_T32 x7_49 0).f1)) := hcc73 1 _ rfl; have hx73_2 : w74.cell? ⟨go73, (0 : Int).toNat * 4 + 2, none⟩ = some (.int .i64 ((rd_T32 x7_49 0).f2)) := hcc73 2 _ rfl; have hx73_3 : w74.cell? ⟨go73, (0 : Int).toNat * 4 + 3, none⟩ = some (.int .i64 ((rd_T32 x7_49 0).f3)) := hcc73 3 _ rfl; have hf73_0 : w74.frozen? ⟨go73, (0 : Int).toNat * 4, none⟩ = false := hfr73 0; have hf73_1 : w74.frozen? ⟨go73, (0 : Int).toNat * 4 + 1, none⟩ = false := hfr73 1; have hf73_2 : w74.frozen? ⟨go73, (0 : Int).toNat * 4 + 2, none⟩ = false := hfr73 2; have hf73_3 : w74.frozen? ⟨go73, (0 : Int).toNat * 4 + 3, none⟩ = false := hfr73 3; clear hcl73 hcc73 hfr73; (try clear hM73); (try rw [show ((0 : Int)).toNat = 0 from rfl] at hx73_0); (try simp only [Nat.reduceMul, Nat.zero_mul, Nat.zero_add, Nat.reduceAdd] at hx73_0); (try rw [show ((0 : Int)).toNat = 0 from rfl] at hf73_0); (try simp only [Nat.reduceMul, Nat.zero_mul, Nat.zero_add, Nat.reduceAdd] at hf73_0); (try rw [show ((0 : Int)).toNat = 0 from rfl] at hx73_1); (try simp only [Nat.reduceMul, Nat.zero_mul, Nat.zero_add, Nat.reduceAdd] at hx73_1); (try rw [show ((0 : Int)).toNat = 0 from rfl] at hf73_1); (try simp only [Nat.reduceMul, Nat.zero_mul, Nat.zero_add, Nat.reduceAdd] at hf73_1); (try rw [show ((0 : Int)).toNat = 0 from rfl] at hx73_2); (try simp only [Nat.reduceMul, Nat.zero_mul, Nat.zero_add, Nat.reduceAdd] at hx73_2); (try rw [show ((0 : Int)).toNat = 0 from rfl] at hf73_2); (try simp only [Nat.reduceMul, Nat.zero_mul, Nat.zero_add, Nat.reduceAdd] at hf73_2); (try rw [show ((0 : Int)).toNat = 0 from rfl] at hx73_3); (try simp only [Nat.reduceMul, Nat.zero_mul, Nat.zero_add, Nat.reduceAdd] at hx73_3); (try rw [show ((0 : Int)).toNat = 0 from rfl] at hf73_3); (try simp only [Nat.reduceMul, Nat.zero_mul, Nat.zero_add, Nat.reduceAdd] at hf73_3); replace p73 := eq_true p73; replace q73 := eq_true q73; have HX75 := Aside0.mk (show Kd.R k32 32 w74 w.heap.size (fun _ => True) (.slice (some ⟨go73, 0, none⟩) x7_49.length co51) x7_49 from (qq2 HO_7.out)); obtain ⟨ce75, hcl75, hM75, hcc75, hfr75⟩ := Kd.R_elem HX75.out z32 (0 : Int) (by omega) (by have h_ : (0 : Int) < ((x7_49.length : Int) : Int) := of_decide_eq_true qq3; first | exact h_ | (have e_ := (Kd.R_reads' HO_7.out).1; omega) | simpa using h_); obtain rfl := k32_openM hM75; have HP75 := Kd.R_seg HX75.out (0 : Int) (by omega) (by have h_ : (0 : Int) < ((x7_49.length : Int) : Int) := of_decide_eq_true qq3; first | exact h_ | (have e_ := (Kd.R_reads' HO_7.out).1; omega) | simpa using h_) (seg := [.int .i64 ((rd_T32 x7_49 0).f0)]) (j := 1) hcl75 hcc75 (show 2 ≤ 4 from by decide) (x' := (⟨(rd_T32 x7_49 0).f0, (rd_T32 x7_49 0).f0, (rd_T32 x7_49 0).f2, (rd_T32 x7_49 0).f3⟩ : S32)) (k32_mkM _ _ _ (⟨(rd_T32 x7_49 0).f0, (rd_T32 x7_49 0).f0, (rd_T32 x7_49 0).f2, (rd_T32 x7_49 0).f3⟩ : S32) ) (fun _ hk => hk); have hx75_1 := hcc75 1 _ rfl; (try simp only [show (k32).sz = 4 from rfl, Nat.mul_one, Nat.add_zero] at hx75_1); (try rw [show ((0 : Int)).toNat = 0 from rfl] at hx75_1); (try simp only [Nat.reduceMul, Nat.zero_mul, Nat.zero_add, Nat.reduceAdd] at hx75_1); have hf75_1 := hfr75 1; (try simp only [show (k32).sz = 4 from rfl, Nat.mul_one, Nat.add_zero] at hf75_1); (try rw [show ((0 : Int)).toNat = 0 from rfl] at hf75_1); (try simp only [Nat.reduceMul, Nat.zero_mul, Nat.zero_add, Nat.reduceAdd] at hf75_1); clear hcl75 hcc75 hfr75; (try clear hM75)) | ((with_reducible refine gate_store (t := 3) (p := 135) rfl ?_); refine store_event (t := 3) (p := 135) (v := ?vo_w76) (w1 := (w74.setCell ⟨go73, 1, none⟩ (.int .i64 ((rd_T32 x7_49 0).f0)))) ?hg ?ho ?hn ?hr ?_; (case ho => rfl); (case hg => rfl); (case hn => rfl); (case hr => exact qq16); intro w76 hw; have hg : w74.grownBy w76 (some go73) := (by rw [hw]; exact HP75.2); have hp_ : Kd.R k32 32 w76 w.heap.size (fun _ => True) (.slice (some ⟨go73, 0, none⟩) x7_49.length co51) y148 := (by rw [hw, Ny148.out]; exact HP75.1); clear HP75; have n0_ := Aside0.mk (hp_); have n1_ := Aside0.mk (IsS61.grown qq9 hg (IsS61.own_ne HI0.out HO_7.out (by decide))); have n2_ := Aside0.mk ((by rw [hw]; exact below_set (HB.out) (Nat.le_trans HL.out GB73.out) : Below w0.heap.size w0 w76)); have n3_ := Aside0.mk (KeepBut.trans qq6 (KeepBut.of_grown hg g) (Kd.R_base2 HO_7.out)); clear HO_7; clear HI0; clear HB; clear HK; have HO_7 := n0_; have HI0 := n1_; have HB := n2_; have HK := n3_; clear n0_ n1_ n2_ n3_; clear hg hw hp_))
                              go_ret2
                              exact ⟨_, qq11, qq2 HO_7.out, qq9, qq8, qq6⟩
                            · rw [if_neg c72] at H
                              exact absurd H (by simp)
                          · rw [if_neg c71] at H
                            have c71b0 : (t145 == 0) = false := beq_eq_false_iff_ne.mpr c71
                            have c71b1 : (t145 != 0) = true := bne_iff_ne.mpr c71
                            by_cases c77 : t145 = 1
                            · rw [if_pos c77] at H
                              have c77b0 : (t145 == 1) = true := beq_iff_eq.mpr c77
                              have c77b1 : (t145 != 1) = false := bne_eq_false_iff_eq.mpr c77
                              clear c77
                              obtain ⟨y149, hy149⟩ : ∃ y_ : List Int, y_ = (([0, 10] : List Int)) := ⟨_, rfl⟩
                              replace H : ((spec_l6Rd_pick.f kj49 s0_0 t146 2).bind fun bt152 => (if 0 ≤ bt152.1 then (if bt152.1 < (y149.length : Int) then (if 0 < (x7_49.length : Int) then (some ((wrap64 (2 + t104)), (x7_49.set (0 : Int).toNat (⟨(rd_T32 x7_49 0).f0, (rd_T32 x7_49 0).f1, (rd_T32 x7_49 0).f2, rd y149 bt152.1⟩ : S32)), bt152.2)) else (none)) else (none)) else (none))) = some (r1, r2, r3) := by first | (rw [hy149]; with_reducible exact H) | (have H2_ := (Option.bind_some _ _).symm.trans H; rw [hy149]; with_reducible exact H2_) | (have H2_ := (Option.bind_some _ _).symm.trans H; with_reducible exact H2_) | with_reducible exact H | (rw [hy149]; exact H) | exact H
                              have Ny149 := Aside0.mk hy149
                              clear hy149
                              replace H := Option.bind_eq_some_iff.mp H
                              obtain ⟨⟨t152, t153⟩, A780, H⟩ := H
                              replace H : (if 0 ≤ t152 then (if t152 < (y149.length : Int) then (if 0 < (x7_49.length : Int) then (some ((wrap64 (2 + t104)), (x7_49.set (0 : Int).toNat (⟨(rd_T32 x7_49 0).f0, (rd_T32 x7_49 0).f1, (rd_T32 x7_49 0).f2, rd y149 t152⟩ : S32)), t153)) else (none)) else (none)) else (none)) = some (r1, r2, r3) := H
                              have A78 := Aside0.mk A780
                              clear A780
                              by_cases c79 : 0 ≤ t152
                              · rw [if_pos c79] at H
                                have c79b0 : decide (0 ≤ t152) = true := decide_eq_true c79
                                clear c79
                                by_cases c80 : t152 < (y149.length : Int)
                                · rw [if_pos c80] at H
                                  have c80b0 : decide (t152 < (y149.length : Int)) = true := decide_eq_true c80
                                  clear c80
                                  by_cases c81 : 0 < (x7_49.length : Int)
                                  · rw [if_pos c81] at H
                                    have c81b0 : decide (0 < (x7_49.length : Int)) = true := decide_eq_true c81
                                    have c81b1 : decide (0 < x7_49.length) = true := decide_eq_true (by omega)
                                    clear c81
                                    obtain ⟨y155, hy155⟩ : ∃ y_ : List (S32), y_ = (x7_49.set (0 : Int).toNat (⟨(rd_T32 x7_49 0).f0, (rd_T32 x7_49 0).f1, (rd_T32 x7_49 0).f2, rd y149 t152⟩ : S32)) := ⟨_, rfl⟩
                                    replace H : (some ((wrap64 (2 + t104)), y155, t153)) = some (r1, r2, r3) := by first | (rw [hy155]; with_reducible exact H) | (have H2_ := (Option.bind_some _ _).symm.trans H; rw [hy155]; with_reducible exact H2_) | (have H2_ := (Option.bind_some _ _).symm.trans H; with_reducible exact H2_) | with_reducible exact H | (rw [hy155]; exact H) | exact H
                                    have Ny155 := Aside0.mk hy155
                                    clear hy155
                                    simp only [Option.some.injEq, Prod.mk.injEq] at H
                                    obtain ⟨rfl, rfl, rfl⟩ := H
                                    go_wp2_with (first | ((with_reducible refine gate_callee (f := 36) rfl ?_); refine goesL_ (some 126) rfl rfl Try.func36 (by kernel_rfl) rfl #[.pointer (some ⟨g, 0, none⟩), .int .i64 50] rfl qq5 ?_; (with_reducible refine (spec_l6Rd_pick.calls kj49 g s0_0 x1001_49 50 t145 t146 w0 _ ?side1 ?side2 A70.out).mono ?_); (case side1 => exact qq9); (case side2 => exact qq8); rintro e w83 ⟨rfl, hi, hb, hk⟩; refine ⟨_, rfl, ?_⟩; have n0_ := Aside0.mk (Kd.R_mono (Kd.R_keep (IsS61.apart (show IsS61 w0 _ g s0_0 x1001_49 from by repeat (first | (with_reducible first | exact HI0.out | apply IsS61.alloc | apply IsS61.drewN | apply IsS61.drew | apply IsS61.set_1) | exact HI0.out)) (qq2 HO_7.out) (by decide)) hk (fun _ h => h.2)) (fun _ h => h.1)); have n1_ := Aside0.mk (KeepBut.trans qq6 hk (.inl rfl)); have n2_ := Aside0.mk (hb); have n3_ := Aside0.mk (hi); clear HO_7; clear HK; clear HB; clear HI0; have HO_7 := n0_; have HK := n1_; have HB := n2_; have HI0 := n3_; clear n0_ n1_ n2_ n3_; (try clear hb); (try clear hb2); (try clear hk); (try clear hi)) | ((with_reducible refine gate_dst (N := 139) rfl ?_); refine Kd.R_lit (Kd.int .i64) _ 3 ?hg (N := 139) ?hd (xs := ([0, 10] : List Int)) (inner := [.int .i64 0, .int .i64 10]) (ok := fun _ => True) (okp := fun _ => True) ?hr ?hp (fun _ hk => hk) trivial (Below.refl _ _) (Nat.le_refl _) (by simp) ?_; (case hd => rfl); (case hg => rfl); (case hr => exact qq16); (case hp => exact (Reps.one (show Kd.M (Kd.int .i64) _ _ _ 0 [.int .i64 0] from rfl) (Reps.one (show Kd.M (Kd.int .i64) _ _ _ 10 [.int .i64 10] from rfl) (Reps.none _ _)))); intro v150 w84 ho85 hb hg_ hnew_; clear hg_ hnew_; (first | rw [← Ny149.out] at ho85 | (simp only [Int.reduceToNat] at ho85; rw [← Ny149.out] at ho85)); have n0_ := Aside0.mk (Kd.R_below (qq2 HO_7.out) hb); have n1_ := Aside0.mk (Kd.R_lower ho85 (keep_size (w := w) (g := g) (row := none) qq6)); have n2_ := Aside0.mk (IsS61.below qq9 hb); have n3_ := Aside0.mk (KeepBut.trans qq6 (KeepBut.of_below hb g none) (.inl rfl)); have n4_ := Aside0.mk (below_step qq8 hb); clear HO_7; clear HI0; clear HK; clear HB; have HO_7 := n0_; have HO151 := n1_; have HI0 := n2_; have HK := n3_; have HB := n4_; clear n0_ n1_ n2_ n3_ n4_; clear hb ho85) | ((with_reducible refine gate_callee (f := 36) rfl ?_); refine goesL_ (some 141) rfl rfl Try.func36 (by kernel_rfl) rfl #[.pointer (some ⟨g, 0, none⟩), .int .i64 2] rfl qq5 ?_; (with_reducible refine (spec_l6Rd_pick.calls kj49 g s0_0 t146 2 t152 t153 w0 _ ?side1 ?side2 A78.out).mono ?_); (case side1 => exact qq9); (case side2 => exact qq8); rintro e w86 ⟨rfl, hi, hb, hk⟩; refine ⟨_, rfl, ?_⟩; have n0_ := Aside0.mk (Kd.R_mono (Kd.R_keep (IsS61.apart (show IsS61 w0 _ g s0_0 t146 from by repeat (first | (with_reducible first | exact HI0.out | apply IsS61.alloc | apply IsS61.drewN | apply IsS61.drew | apply IsS61.set_1) | exact HI0.out)) (qq2 HO_7.out) (by decide)) hk (fun _ h => h.2)) (fun _ h => h.1)); have n1_ := Aside0.mk (Kd.R_mono (Kd.R_keep (IsS61.apart (show IsS61 w0 _ g s0_0 t146 from by repeat (first | (with_reducible first | exact HI0.out | apply IsS61.alloc | apply IsS61.drewN | apply IsS61.drew | apply IsS61.set_1) | exact HI0.out)) (qq2 HO151.out) (by decide)) hk (fun _ h => h.2)) (fun _ h => h.1)); have n2_ := Aside0.mk (KeepBut.trans qq6 hk (.inl rfl)); have n3_ := Aside0.mk (hb); have n4_ := Aside0.mk (hi); clear HO_7; clear HO151; clear HK; clear HB; clear HI0; have HO_7 := n0_; have HO151 := n1_; have HK := n2_; have HB := n3_; have HI0 := n4_; clear n0_ n1_ n2_ n3_ n4_; (try clear hb); (try clear hb2); (try clear hk); (try clear hi); obtain ⟨Ao87, co87, eo87⟩ := Kd.R_slice HO151.out; subst eo87; have p154 : 0 ≤ (t152 : Int) := of_decide_eq_true qq3; have q154 : t152 < (y149.length : Int) := of_decide_eq_true qq3; obtain ⟨ad154, e154, hx154_0⟩ := Kd.at_int (Kd.R_reads' HO151.out).2.2 t152 p154 q154; cases e154; replace p154 := eq_true p154; replace q154 := eq_true q154; have p82 : 0 ≤ (0 : Int) := (by omega); have q82 : (0 : Int) < ((x7_49.length : Int) : Int) := of_decide_eq_true qq3; have qi82 : (0 < x7_49.length) = True := eq_true (by omega); obtain ⟨go82, co82, eo82, gb82, gl82, cl82, HG82⟩ := Kd.R_form HO_7.out (by omega); (first | cases eo82 | (injection eo82 with ea_ en_ ec_; (first | subst ea_ | (injection ea_ with ea_; subst ea_)); subst ec_; clear en_)); have GB82 := Aside0.mk gb82; have GG82 := Aside0.mk HG82; clear gb82 gl82 HG82; obtain ⟨ce82, hcl82, hM82, hcc82, hfr82⟩ := Kd.R_elem HO_7.out z32 (0 : Int) p82 q82; obtain rfl := k32_openM hM82; have hx82_0 : w86.cell? ⟨go82, (0 : Int).toNat * 4, none⟩ = some (.int .i64 ((rd_T32 x7_49 0).f0)) := hcc82 0 _ rfl; have hx82_1 : w86.cell? ⟨go82, (0 : Int).toNat * 4 + 1, none⟩ = some (.int .i64 ((rd_T32 x7_49 0).f1)) := hcc82 1 _ rfl; have hx82_2 : w86.cell? ⟨go82, (0 : Int).toNat * 4 + 2, none⟩ = some (.int .i64 ((rd_T32 x7_49 0).f2)) := hcc82 2 _ rfl; have hx82_3 : w86.cell? ⟨go82, (0 : Int).toNat * 4 + 3, none⟩ = some (.int .i64 ((rd_T32 x7_49 0).f3)) := hcc82 3 _ rfl; have hf82_0 : w86.frozen? ⟨go82, (0 : Int).toNat * 4, none⟩ = false := hfr82 0; have hf82_1 : w86.frozen? ⟨go82, (0 : Int).toNat * 4 + 1, none⟩ = false := hfr82 1; have hf82_2 : w86.frozen? ⟨go82, (0 : Int).toNat * 4 + 2, none⟩ = false := hfr82 2; have hf82_3 : w86.frozen? ⟨go82, (0 : Int).toNat * 4 + 3, none⟩ = false := hfr82 3; clear hcl82 hcc82 hfr82; (try clear hM82); (try rw [show ((0 : Int)).toNat = 0 from rfl] at hx82_0); (try simp only [Nat.reduceMul, Nat.zero_mul, Nat.zero_add, Nat.reduceAdd] at hx82_0); (try rw [show ((0 : Int)).toNat = 0 from rfl] at hf82_0); (try simp only [Nat.reduceMul, Nat.zero_mul, Nat.zero_add, Nat.reduceAdd] at hf82_0); (try rw [show ((0 : Int)).toNat = 0 from rfl] at hx82_1); (try simp only [Nat.reduceMul, Nat.zero_mul, Nat.zero_add, Nat.reduceAdd] at hx82_1); (try rw [show ((0 : Int)).toNat = 0 from rfl] at hf82_1); (try simp only [Nat.reduceMul, Nat.zero_mul, Nat.zero_add, Nat.reduceAdd] at hf82_1); (try rw [show ((0 : Int)).toNat = 0 from rfl] at hx82_2); (try simp only [Nat.reduceMul, Nat.zero_mul, Nat.zero_add, Nat.reduceAdd] at hx82_2); (try rw [show ((0 : Int)).toNat = 0 from rfl] at hf82_2); (try simp only [Nat.reduceMul, Nat.zero_mul, Nat.zero_add, Nat.reduceAdd] at hf82_2); (try rw [show ((0 : Int)).toNat = 0 from rfl] at hx82_3); (try simp only [Nat.reduceMul, Nat.zero_mul, Nat.zero_add, Nat.reduceAdd] at hx82_3); (try rw [show ((0 : Int)).toNat = 0 from rfl] at hf82_3); (try simp only [Nat.reduceMul, Nat.zero_mul, Nat.zero_add, Nat.reduceAdd] at hf82_3); replace p82 := eq_true p82; replace q82 := eq_true q82; have HX88 := Aside0.mk (show Kd.R k32 32 w86 w.heap.size (fun _ => True) (.slice (some ⟨go82, 0, none⟩) x7_49.length co51) x7_49 from (qq2 HO_7.out)); obtain ⟨ce88, hcl88, hM88, hcc88, hfr88⟩ := Kd.R_elem HX88.out z32 (0 : Int) (by omega) (by have h_ : (0 : Int) < ((x7_49.length : Int) : Int) := of_decide_eq_true qq3; first | exact h_ | (have e_ := (Kd.R_reads' HO_7.out).1; omega) | simpa using h_); obtain rfl := k32_openM hM88; have HP88 := Kd.R_seg HX88.out (0 : Int) (by omega) (by have h_ : (0 : Int) < ((x7_49.length : Int) : Int) := of_decide_eq_true qq3; first | exact h_ | (have e_ := (Kd.R_reads' HO_7.out).1; omega) | simpa using h_) (seg := [.int .i64 (rd y149 t152)]) (j := 3) hcl88 hcc88 (show 4 ≤ 4 from by decide) (x' := (⟨(rd_T32 x7_49 0).f0, (rd_T32 x7_49 0).f1, (rd_T32 x7_49 0).f2, rd y149 t152⟩ : S32)) (k32_mkM _ _ _ (⟨(rd_T32 x7_49 0).f0, (rd_T32 x7_49 0).f1, (rd_T32 x7_49 0).f2, rd y149 t152⟩ : S32) ) (fun _ hk => hk); have hx88_3 := hcc88 3 _ rfl; (try simp only [show (k32).sz = 4 from rfl, Nat.mul_one, Nat.add_zero] at hx88_3); (try rw [show ((0 : Int)).toNat = 0 from rfl] at hx88_3); (try simp only [Nat.reduceMul, Nat.zero_mul, Nat.zero_add, Nat.reduceAdd] at hx88_3); have hf88_3 := hfr88 3; (try simp only [show (k32).sz = 4 from rfl, Nat.mul_one, Nat.add_zero] at hf88_3); (try rw [show ((0 : Int)).toNat = 0 from rfl] at hf88_3); (try simp only [Nat.reduceMul, Nat.zero_mul, Nat.zero_add, Nat.reduceAdd] at hf88_3); clear hcl88 hcc88 hfr88; (try clear hM88)) | ((with_reducible refine gate_store (t := 3) (p := 145) rfl ?_); refine store_event (t := 3) (p := 145) (v := ?vo_w89) (w1 := (w86.setCell ⟨go82, 3, none⟩ (.int .i64 (rd y149 t152)))) ?hg ?ho ?hn ?hr ?_; (case ho => rfl); (case hg => rfl); (case hn => rfl); (case hr => exact qq16); intro w89 hw; have hg : w86.grownBy w89 (some go82) := (by rw [hw]; exact HP88.2); have hp_ : Kd.R k32 32 w89 w.heap.size (fun _ => True) (.slice (some ⟨go82, 0, none⟩) x7_49.length co51) y155 := (by rw [hw, Ny155.out]; exact HP88.1); clear HP88; have n0_ := Aside0.mk (hp_); have n1_ := Aside0.mk (IsS61.grown qq9 hg (IsS61.own_ne HI0.out HO_7.out (by decide))); have n2_ := Aside0.mk (Kd.R_over' (v := (.slice (some ⟨go82, 0, none⟩) x7_49.length co51)) (qq2 HO151.out) (Kd.R_typed HO_7.out) (by decide) hg); have n3_ := Aside0.mk ((by rw [hw]; exact below_set (HB.out) (Nat.le_trans HL.out GB82.out) : Below w0.heap.size w0 w89)); have n4_ := Aside0.mk (KeepBut.trans qq6 (KeepBut.of_grown hg g) (Kd.R_base2 HO_7.out)); clear HO_7; clear HI0; clear HO151; clear HB; clear HK; have HO_7 := n0_; have HI0 := n1_; have HO151 := n2_; have HB := n3_; have HK := n4_; clear n0_ n1_ n2_ n3_ n4_; clear hg hw hp_))
                                    go_ret2
                                    exact ⟨_, qq11, qq2 HO_7.out, qq9, qq8, qq6⟩
                                  · rw [if_neg c81] at H
                                    exact absurd H (by simp)
                                · rw [if_neg c80] at H
                                  exact absurd H (by simp)
                              · rw [if_neg c79] at H
                                exact absurd H (by simp)
                            · rw [if_neg c77] at H
                              have c77b0 : (t145 == 1) = false := beq_eq_false_iff_ne.mpr c77
                              have c77b1 : (t145 != 1) = true := bne_iff_ne.mpr c77
                              by_cases c90 : t145 = 2
                              · rw [if_pos c90] at H
                                have c90b0 : (t145 == 2) = true := beq_iff_eq.mpr c90
                                have c90b1 : (t145 != 2) = false := bne_eq_false_iff_eq.mpr c90
                                clear c90
                                by_cases c91 : 0 < (x7_49.length : Int)
                                · rw [if_pos c91] at H
                                  have c91b0 : decide (0 < (x7_49.length : Int)) = true := decide_eq_true c91
                                  have c91b1 : decide (0 < x7_49.length) = true := decide_eq_true (by omega)
                                  clear c91
                                  obtain ⟨y156, hy156⟩ : ∃ y_ : List (S32), y_ = (x7_49.set (0 : Int).toNat (⟨(rd_T32 x7_49 0).f0, (rd_T32 x7_49 0).f1, 100001, (rd_T32 x7_49 0).f3⟩ : S32)) := ⟨_, rfl⟩
                                  replace H : (some ((wrap64 (2 + t104)), y156, t146)) = some (r1, r2, r3) := by first | (rw [hy156]; with_reducible exact H) | (have H2_ := (Option.bind_some _ _).symm.trans H; rw [hy156]; with_reducible exact H2_) | (have H2_ := (Option.bind_some _ _).symm.trans H; with_reducible exact H2_) | with_reducible exact H | (rw [hy156]; exact H) | exact H
                                  have Ny156 := Aside0.mk hy156
                                  clear hy156
                                  simp only [Option.some.injEq, Prod.mk.injEq] at H
                                  obtain ⟨rfl, rfl, rfl⟩ := H
                                  go_wp2_with (first | ((with_reducible refine gate_callee (f := 36) rfl ?_); refine goesL_ (some 126) rfl rfl Try.func36 (by kernel_rfl) rfl #[.pointer (some ⟨g, 0, none⟩), .int .i64 50] rfl qq5 ?_; (with_reducible refine (spec_l6Rd_pick.calls kj49 g s0_0 x1001_49 50 t145 t146 w0 _ ?side1 ?side2 A70.out).mono ?_); (case side1 => exact qq9); (case side2 => exact qq8); rintro e w93 ⟨rfl, hi, hb, hk⟩; refine ⟨_, rfl, ?_⟩; have n0_ := Aside0.mk (Kd.R_mono (Kd.R_keep (IsS61.apart (show IsS61 w0 _ g s0_0 x1001_49 from by repeat (first | (with_reducible first | exact HI0.out | apply IsS61.alloc | apply IsS61.drewN | apply IsS61.drew | apply IsS61.set_1) | exact HI0.out)) (qq2 HO_7.out) (by decide)) hk (fun _ h => h.2)) (fun _ h => h.1)); have n1_ := Aside0.mk (KeepBut.trans qq6 hk (.inl rfl)); have n2_ := Aside0.mk (hb); have n3_ := Aside0.mk (hi); clear HO_7; clear HK; clear HB; clear HI0; have HO_7 := n0_; have HK := n1_; have HB := n2_; have HI0 := n3_; clear n0_ n1_ n2_ n3_; (try clear hb); (try clear hb2); (try clear hk); (try clear hi); have p92 : 0 ≤ (0 : Int) := (by omega); have q92 : (0 : Int) < ((x7_49.length : Int) : Int) := of_decide_eq_true qq3; have qi92 : (0 < x7_49.length) = True := eq_true (by omega); obtain ⟨go92, co92, eo92, gb92, gl92, cl92, HG92⟩ := Kd.R_form HO_7.out (by omega); (first | cases eo92 | (injection eo92 with ea_ en_ ec_; (first | subst ea_ | (injection ea_ with ea_; subst ea_)); subst ec_; clear en_)); have GB92 := Aside0.mk gb92; have GG92 := Aside0.mk HG92; clear gb92 gl92 HG92; obtain ⟨ce92, hcl92, hM92, hcc92, hfr92⟩ := Kd.R_elem HO_7.out z32 (0 : Int) p92 q92; obtain rfl := k32_openM hM92; have hx92_0 : w93.cell? ⟨go92, (0 : Int).toNat * 4, none⟩ = some (.int .i64 ((rd_T32 x7_49 0).f0)) := hcc92 0 _ rfl; have hx92_1 : w93.cell? ⟨go92, (0 : Int).toNat * 4 + 1, none⟩ = some (.int .i64 ((rd_T32 x7_49 0).f1)) := hcc92 1 _ rfl; have hx92_2 : w93.cell? ⟨go92, (0 : Int).toNat * 4 + 2, none⟩ = some (.int .i64 ((rd_T32 x7_49 0).f2)) := hcc92 2 _ rfl; have hx92_3 : w93.cell? ⟨go92, (0 : Int).toNat * 4 + 3, none⟩ = some (.int .i64 ((rd_T32 x7_49 0).f3)) := hcc92 3 _ rfl; have hf92_0 : w93.frozen? ⟨go92, (0 : Int).toNat * 4, none⟩ = false := hfr92 0; have hf92_1 : w93.frozen? ⟨go92, (0 : Int).toNat * 4 + 1, none⟩ = false := hfr92 1; have hf92_2 : w93.frozen? ⟨go92, (0 : Int).toNat * 4 + 2, none⟩ = false := hfr92 2; have hf92_3 : w93.frozen? ⟨go92, (0 : Int).toNat * 4 + 3, none⟩ = false := hfr92 3; clear hcl92 hcc92 hfr92; (try clear hM92); (try rw [show ((0 : Int)).toNat = 0 from rfl] at hx92_0); (try simp only [Nat.reduceMul, Nat.zero_mul, Nat.zero_add, Nat.reduceAdd] at hx92_0); (try rw [show ((0 : Int)).toNat = 0 from rfl] at hf92_0); (try simp only [Nat.reduceMul, Nat.zero_mul, Nat.zero_add, Nat.reduceAdd] at hf92_0); (try rw [show ((0 : Int)).toNat = 0 from rfl] at hx92_1); (try simp only [Nat.reduceMul, Nat.zero_mul, Nat.zero_add, Nat.reduceAdd] at hx92_1); (try rw [show ((0 : Int)).toNat = 0 from rfl] at hf92_1); (try simp only [Nat.reduceMul, Nat.zero_mul, Nat.zero_add, Nat.reduceAdd] at hf92_1); (try rw [show ((0 : Int)).toNat = 0 from rfl] at hx92_2); (try simp only [Nat.reduceMul, Nat.zero_mul, Nat.zero_add, Nat.reduceAdd] at hx92_2); (try rw [show ((0 : Int)).toNat = 0 from rfl] at hf92_2); (try simp only [Nat.reduceMul, Nat.zero_mul, Nat.zero_add, Nat.reduceAdd] at hf92_2); (try rw [show ((0 : Int)).toNat = 0 from rfl] at hx92_3); (try simp only [Nat.reduceMul, Nat.zero_mul, Nat.zero_add, Nat.reduceAdd] at hx92_3); (try rw [show ((0 : Int)).toNat = 0 from rfl] at hf92_3); (try simp only [Nat.reduceMul, Nat.zero_mul, Nat.zero_add, Nat.reduceAdd] at hf92_3); replace p92 := eq_true p92; replace q92 := eq_true q92; have HX94 := Aside0.mk (show Kd.R k32 32 w93 w.heap.size (fun _ => True) (.slice (some ⟨go92, 0, none⟩) x7_49.length co51) x7_49 from (qq2 HO_7.out)); obtain ⟨ce94, hcl94, hM94, hcc94, hfr94⟩ := Kd.R_elem HX94.out z32 (0 : Int) (by omega) (by have h_ : (0 : Int) < ((x7_49.length : Int) : Int) := of_decide_eq_true qq3; first | exact h_ | (have e_ := (Kd.R_reads' HO_7.out).1; omega) | simpa using h_); obtain rfl := k32_openM hM94; have HP94 := Kd.R_seg HX94.out (0 : Int) (by omega) (by have h_ : (0 : Int) < ((x7_49.length : Int) : Int) := of_decide_eq_true qq3; first | exact h_ | (have e_ := (Kd.R_reads' HO_7.out).1; omega) | simpa using h_) (seg := [.int .i64 100001]) (j := 2) hcl94 hcc94 (show 3 ≤ 4 from by decide) (x' := (⟨(rd_T32 x7_49 0).f0, (rd_T32 x7_49 0).f1, 100001, (rd_T32 x7_49 0).f3⟩ : S32)) (k32_mkM _ _ _ (⟨(rd_T32 x7_49 0).f0, (rd_T32 x7_49 0).f1, 100001, (rd_T32 x7_49 0).f3⟩ : S32) ) (fun _ hk => hk); have hx94_2 := hcc94 2 _ rfl; (try simp only [show (k32).sz = 4 from rfl, Nat.mul_one, Nat.add_zero] at hx94_2); (try rw [show ((0 : Int)).toNat = 0 from rfl] at hx94_2); (try simp only [Nat.reduceMul, Nat.zero_mul, Nat.zero_add, Nat.reduceAdd] at hx94_2); have hf94_2 := hfr94 2; (try simp only [show (k32).sz = 4 from rfl, Nat.mul_one, Nat.add_zero] at hf94_2); (try rw [show ((0 : Int)).toNat = 0 from rfl] at hf94_2); (try simp only [Nat.reduceMul, Nat.zero_mul, Nat.zero_add, Nat.reduceAdd] at hf94_2); clear hcl94 hcc94 hfr94; (try clear hM94)) | ((with_reducible refine gate_store (t := 3) (p := 150) rfl ?_); refine store_event (t := 3) (p := 150) (v := ?vo_w95) (w1 := (w93.setCell ⟨go92, 2, none⟩ (.int .i64 100001))) ?hg ?ho ?hn ?hr ?_; (case ho => rfl); (case hg => rfl); (case hn => rfl); (case hr => exact qq16); intro w95 hw; have hg : w93.grownBy w95 (some go92) := (by rw [hw]; exact HP94.2); have hp_ : Kd.R k32 32 w95 w.heap.size (fun _ => True) (.slice (some ⟨go92, 0, none⟩) x7_49.length co51) y156 := (by rw [hw, Ny156.out]; exact HP94.1); clear HP94; have n0_ := Aside0.mk (hp_); have n1_ := Aside0.mk (IsS61.grown qq9 hg (IsS61.own_ne HI0.out HO_7.out (by decide))); have n2_ := Aside0.mk ((by rw [hw]; exact below_set (HB.out) (Nat.le_trans HL.out GB92.out) : Below w0.heap.size w0 w95)); have n3_ := Aside0.mk (KeepBut.trans qq6 (KeepBut.of_grown hg g) (Kd.R_base2 HO_7.out)); clear HO_7; clear HI0; clear HB; clear HK; have HO_7 := n0_; have HI0 := n1_; have HB := n2_; have HK := n3_; clear n0_ n1_ n2_ n3_; clear hg hw hp_))
                                  go_ret2
                                  exact ⟨_, qq11, qq2 HO_7.out, qq9, qq8, qq6⟩
                                · rw [if_neg c91] at H
                                  exact absurd H (by simp)
                              · rw [if_neg c90] at H
                                have c90b0 : (t145 == 2) = false := beq_eq_false_iff_ne.mpr c90
                                have c90b1 : (t145 != 2) = true := bne_iff_ne.mpr c90
                                by_cases c96 : t145 = 3
                                · rw [if_pos c96] at H
                                  have c96b0 : (t145 == 3) = true := beq_iff_eq.mpr c96
                                  have c96b1 : (t145 != 3) = false := bne_eq_false_iff_eq.mpr c96
                                  clear c96
                                  by_cases c97 : 0 < (x7_49.length : Int)
                                  · rw [if_pos c97] at H
                                    have c97b0 : decide (0 < (x7_49.length : Int)) = true := decide_eq_true c97
                                    have c97b1 : decide (0 < x7_49.length) = true := decide_eq_true (by omega)
                                    clear c97
                                    obtain ⟨y157, hy157⟩ : ∃ y_ : List (S32), y_ = (x7_49.set (0 : Int).toNat (⟨(rd_T32 x7_49 0).f0, (wrap64 (2 + t104)), (rd_T32 x7_49 0).f2, (rd_T32 x7_49 0).f3⟩ : S32)) := ⟨_, rfl⟩
                                    replace H : (some ((wrap64 (2 + t104)), y157, t146)) = some (r1, r2, r3) := by first | (rw [hy157]; with_reducible exact H) | (have H2_ := (Option.bind_some _ _).symm.trans H; rw [hy157]; with_reducible exact H2_) | (have H2_ := (Option.bind_some _ _).symm.trans H; with_reducible exact H2_) | with_reducible exact H | (rw [hy157]; exact H) | exact H
                                    have Ny157 := Aside0.mk hy157
                                    clear hy157
                                    simp only [Option.some.injEq, Prod.mk.injEq] at H
                                    obtain ⟨rfl, rfl, rfl⟩ := H
                                    go_wp2_with (first | ((with_reducible refine gate_callee (f := 36) rfl ?_); refine goesL_ (some 126) rfl rfl Try.func36 (by kernel_rfl) rfl #[.pointer (some ⟨g, 0, none⟩), .int .i64 50] rfl qq5 ?_; (with_reducible refine (spec_l6Rd_pick.calls kj49 g s0_0 x1001_49 50 t145 t146 w0 _ ?side1 ?side2 A70.out).mono ?_); (case side1 => exact qq9); (case side2 => exact qq8); rintro e w99 ⟨rfl, hi, hb, hk⟩; refine ⟨_, rfl, ?_⟩; have n0_ := Aside0.mk (Kd.R_mono (Kd.R_keep (IsS61.apart (show IsS61 w0 _ g s0_0 x1001_49 from by repeat (first | (with_reducible first | exact HI0.out | apply IsS61.alloc | apply IsS61.drewN | apply IsS61.drew | apply IsS61.set_1) | exact HI0.out)) (qq2 HO_7.out) (by decide)) hk (fun _ h => h.2)) (fun _ h => h.1)); have n1_ := Aside0.mk (KeepBut.trans qq6 hk (.inl rfl)); have n2_ := Aside0.mk (hb); have n3_ := Aside0.mk (hi); clear HO_7; clear HK; clear HB; clear HI0; have HO_7 := n0_; have HK := n1_; have HB := n2_; have HI0 := n3_; clear n0_ n1_ n2_ n3_; (try clear hb); (try clear hb2); (try clear hk); (try clear hi); have p98 : 0 ≤ (0 : Int) := (by omega); have q98 : (0 : Int) < ((x7_49.length : Int) : Int) := of_decide_eq_true qq3; have qi98 : (0 < x7_49.length) = True := eq_true (by omega); obtain ⟨go98, co98, eo98, gb98, gl98, cl98, HG98⟩ := Kd.R_form HO_7.out (by omega); (first | cases eo98 | (injection eo98 with ea_ en_ ec_; (first | subst ea_ | (injection ea_ with ea_; subst ea_)); subst ec_; clear en_)); have GB98 := Aside0.mk gb98; have GG98 := Aside0.mk HG98; clear gb98 gl98 HG98; obtain ⟨ce98, hcl98, hM98, hcc98, hfr98⟩ := Kd.R_elem HO_7.out z32 (0 : Int) p98 q98; obtain rfl := k32_openM hM98; have hx98_0 : w99.cell? ⟨go98, (0 : Int).toNat * 4, none⟩ = some (.int .i64 ((rd_T32 x7_49 0).f0)) := hcc98 0 _ rfl; have hx98_1 : w99.cell? ⟨go98, (0 : Int).toNat * 4 + 1, none⟩ = some (.int .i64 ((rd_T32 x7_49 0).f1)) := hcc98 1 _ rfl; have hx98_2 : w99.cell? ⟨go98, (0 : Int).toNat * 4 + 2, none⟩ = some (.int .i64 ((rd_T32 x7_49 0).f2)) := hcc98 2 _ rfl; have hx98_3 : w99.cell? ⟨go98, (0 : Int).toNat * 4 + 3, none⟩ = some (.int .i64 ((rd_T32 x7_49 0).f3)) := hcc98 3 _ rfl; have hf98_0 : w99.frozen? ⟨go98, (0 : Int).toNat * 4, none⟩ = false := hfr98 0; have hf98_1 : w99.frozen? ⟨go98, (0 : Int).toNat * 4 + 1, none⟩ = false := hfr98 1; have hf98_2 : w99.frozen? ⟨go98, (0 : Int).toNat * 4 + 2, none⟩ = false := hfr98 2; have hf98_3 : w99.frozen? ⟨go98, (0 : Int).toNat * 4 + 3, none⟩ = false := hfr98 3; clear hcl98 hcc98 hfr98; (try clear hM98); (try rw [show ((0 : Int)).toNat = 0 from rfl] at hx98_0); (try simp only [Nat.reduceMul, Nat.zero_mul, Nat.zero_add, Nat.reduceAdd] at hx98_0); (try rw [show ((0 : Int)).toNat = 0 from rfl] at hf98_0); (try simp only [Nat.reduceMul, Nat.zero_mul, Nat.zero_add, Nat.reduceAdd] at hf98_0); (try rw [show ((0 : Int)).toNat = 0 from rfl] at hx98_1); (try simp only [Nat.reduceMul, Nat.zero_mul, Nat.zero_add, Nat.reduceAdd] at hx98_1); (try rw [show ((0 : Int)).toNat = 0 from rfl] at hf98_1); (try simp only [Nat.reduceMul, Nat.zero_mul, Nat.zero_add, Nat.reduceAdd] at hf98_1); (try rw [show ((0 : Int)).toNat = 0 from rfl] at hx98_2); (try simp only [Nat.reduceMul, Nat.zero_mul, Nat.zero_add, Nat.reduceAdd] at hx98_2); (try rw [show ((0 : Int)).toNat = 0 from rfl] at hf98_2); (try simp only [Nat.reduceMul, Nat.zero_mul, Nat.zero_add, Nat.reduceAdd] at hf98_2); (try rw [show ((0 : Int)).toNat = 0 from rfl] at hx98_3); (try simp only [Nat.reduceMul, Nat.zero_mul, Nat.zero_add, Nat.reduceAdd] at hx98_3); (try rw [show ((0 : Int)).toNat = 0 from rfl] at hf98_3); (try simp only [Nat.reduceMul, Nat.zero_mul, Nat.zero_add, Nat.reduceAdd] at hf98_3); replace p98 := eq_true p98; replace q98 := eq_true q98; have HX100 := Aside0.mk (show Kd.R k32 32 w99 w.heap.size (fun _ => True) (.slice (some ⟨go98, 0, none⟩) x7_49.length co51) x7_49 from (qq2 HO_7.out)); obtain ⟨ce100, hcl100, hM100, hcc100, hfr100⟩ := Kd.R_elem HX100.out z32 (0 : Int) (by omega) (by have h_ : (0 : Int) < ((x7_49.length : Int) : Int) := of_decide_eq_true qq3; first | exact h_ | (have e_ := (Kd.R_reads' HO_7.out).1; omega) | simpa using h_); obtain rfl := k32_openM hM100; have HP100 := Kd.R_seg HX100.out (0 : Int) (by omega) (by have h_ : (0 : Int) < ((x7_49.length : Int) : Int) := of_decide_eq_true qq3; first | exact h_ | (have e_ := (Kd.R_reads' HO_7.out).1; omega) | simpa using h_) (seg := [.int .i64 (wrap64 (2 + t104))]) (j := 1) hcl100 hcc100 (show 2 ≤ 4 from by decide) (x' := (⟨(rd_T32 x7_49 0).f0, (wrap64 (2 + t104)), (rd_T32 x7_49 0).f2, (rd_T32 x7_49 0).f3⟩ : S32)) (k32_mkM _ _ _ (⟨(rd_T32 x7_49 0).f0, (wrap64 (2 + t104)), (rd_T32 x7_49 0).f2, (rd_T32 x7_49 0).f3⟩ : S32) ) (fun _ hk => hk); have hx100_1 := hcc100 1 _ rfl; (try simp only [show (k32).sz = 4 from rfl, Nat.mul_one, Nat.add_zero] at hx100_1); (try rw [show ((0 : Int)).toNat = 0 from rfl] at hx100_1); (try simp only [Nat.reduceMul, Nat.zero_mul, Nat.zero_add, Nat.reduceAdd] at hx100_1); have hf100_1 := hfr100 1; (try simp only [show (k32).sz = 4 from rfl, Nat.mul_one, Nat.add_zero] at hf100_1); (try rw [show ((0 : Int)).toNat = 0 from rfl] at hf100_1); (try simp only [Nat.reduceMul, Nat.zero_mul, Nat.zero_add, Nat.reduceAdd] at hf100_1); clear hcl100 hcc100 hfr100; (try clear hM100)) | ((with_reducible refine gate_store (t := 3) (p := 156) rfl ?_); refine store_event (t := 3) (p := 156) (v := ?vo_w101) (w1 := (w99.setCell ⟨go98, 1, none⟩ (.int .i64 (wrap64 (2 + t104))))) ?hg ?ho ?hn ?hr ?_; (case ho => rfl); (case hg => rfl); (case hn => rfl); (case hr => exact qq16); intro w101 hw; have hg : w99.grownBy w101 (some go98) := (by rw [hw]; exact HP100.2); have hp_ : Kd.R k32 32 w101 w.heap.size (fun _ => True) (.slice (some ⟨go98, 0, none⟩) x7_49.length co51) y157 := (by rw [hw, Ny157.out]; exact HP100.1); clear HP100; have n0_ := Aside0.mk (hp_); have n1_ := Aside0.mk (IsS61.grown qq9 hg (IsS61.own_ne HI0.out HO_7.out (by decide))); have n2_ := Aside0.mk ((by rw [hw]; exact below_set (HB.out) (Nat.le_trans HL.out GB98.out) : Below w0.heap.size w0 w101)); have n3_ := Aside0.mk (KeepBut.trans qq6 (KeepBut.of_grown hg g) (Kd.R_base2 HO_7.out)); clear HO_7; clear HI0; clear HB; clear HK; have HO_7 := n0_; have HI0 := n1_; have HB := n2_; have HK := n3_; clear n0_ n1_ n2_ n3_; clear hg hw hp_))
                                    go_ret2
                                    exact ⟨_, qq11, qq2 HO_7.out, qq9, qq8, qq6⟩
                                  · rw [if_neg c97] at H
                                    exact absurd H (by simp)
                                · rw [if_neg c96] at H
                                  have c96b0 : (t145 == 3) = false := beq_eq_false_iff_ne.mpr c96
                                  have c96b1 : (t145 != 3) = true := bne_iff_ne.mpr c96
                                  simp only [Option.some.injEq, Prod.mk.injEq] at H
                                  obtain ⟨rfl, rfl, rfl⟩ := H
                                  go_wp2_with (first | ((with_reducible refine gate_callee (f := 36) rfl ?_); refine goesL_ (some 126) rfl rfl Try.func36 (by kernel_rfl) rfl #[.pointer (some ⟨g, 0, none⟩), .int .i64 50] rfl qq5 ?_; (with_reducible refine (spec_l6Rd_pick.calls kj49 g s0_0 x1001_49 50 t145 t146 w0 _ ?side1 ?side2 A70.out).mono ?_); (case side1 => exact qq9); (case side2 => exact qq8); rintro e w102 ⟨rfl, hi, hb, hk⟩; refine ⟨_, rfl, ?_⟩; have n0_ := Aside0.mk (Kd.R_mono (Kd.R_keep (IsS61.apart (show IsS61 w0 _ g s0_0 x1001_49 from by repeat (first | (with_reducible first | exact HI0.out | apply IsS61.alloc | apply IsS61.drewN | apply IsS61.drew | apply IsS61.set_1) | exact HI0.out)) (qq2 HO_7.out) (by decide)) hk (fun _ h => h.2)) (fun _ h => h.1)); have n1_ := Aside0.mk (KeepBut.trans qq6 hk (.inl rfl)); have n2_ := Aside0.mk (hb); have n3_ := Aside0.mk (hi); clear HO_7; clear HK; clear HB; clear HI0; have HO_7 := n0_; have HK := n1_; have HB := n2_; have HI0 := n3_; clear n0_ n1_ n2_ n3_; (try clear hb); (try clear hb2); (try clear hk); (try clear hi)))
                                  go_ret2
                                  exact ⟨_, qq11, qq2 HO_7.out, qq9, qq8, qq6⟩
                        · rw [if_neg c69] at H
                          have c69b0 : decide (0 < (x7_49.length : Int)) = false := decide_eq_false c69
                          have c69b1 : decide (0 < x7_49.length) = false := decide_eq_false (by omega)
                          clear c69
                          simp only [Option.some.injEq, Prod.mk.injEq] at H
                          obtain ⟨rfl, rfl, rfl⟩ := H
                          go_wp2
                          go_ret2
                          exact ⟨_, qq11, qq2 HO_7.out, qq9, qq8, qq6⟩

end Go.Proofs.Ytmcfhmflncghiaa.Q
namespace Go.Proofs.Ytmcfhmflncghiaa.Q
open Go.RowKit Go.Proofs.YtmcfhmflncghiaaW.PrintWords Go.Proofs.YtmcfhmflncghiaaW.PrintLast Go.Proofs.YtmcfhmflncghiaaW.PrintMore
attribute [local go_sem] max2_int min2_int max_two min_two max_three min_three max_four min_four
set_option linter.unusedVariables false
set_option linter.unusedSimpArgs false

/-! ### spec_l6In: function 40 -/
def spec_l6In.f (a0 : Int) (a1 : Int) (a2 : Int) : Option (Bool) := if a0 ≥ a1 then (some (decide (a0 ≤ a2))) else (some false)
set_option maxHeartbeats 8000000 in
set_option maxRecDepth 100000 in
theorem spec_l6In.calls (a0 : Int) (a1 : Int) (a2 : Int) (r : Bool) (w : World) (h : spec_l6In.f a0 a1 a2 = some r) :
    Calls Try.prog 40 #[.int .i64 a0, .int .i64 a1, .int .i64 a2] w fun e w' => e = .returned (.bool r) ∧ Drawn0 w w' := by
  have H : (if a0 ≥ a1 then (some (decide (a0 ≤ a2))) else (some false)) = some r := h
  clear h
  by_cases c4 : a0 ≥ a1
  · rw [if_pos c4] at H
    have c4b0 : decide (a1 ≤ a0) = true := decide_eq_true c4
    clear c4
    obtain rfl := Option.some.inj H
    go_enter Try.func40, Try.ntmps40
    go_wp2
    go_ret
    exact ⟨qq14, qq26⟩
  · rw [if_neg c4] at H
    have c4b0 : decide (a1 ≤ a0) = false := decide_eq_false c4
    clear c4
    obtain rfl := Option.some.inj H
    go_enter Try.func40, Try.ntmps40
    go_wp2
    go_ret
    exact ⟨qq14, qq26⟩

/-! ### impl_within: function 37 -/
def impl_within.f (a0 : Int) (a1 : Int) : Option (Bool) := if (wrap64 (-a1)) ≤ a0 then (some (decide (a0 ≤ a1))) else (some false)
set_option maxHeartbeats 8000000 in
set_option maxRecDepth 100000 in
theorem impl_within.calls (a0 : Int) (a1 : Int) (r : Bool) (w : World) (h : impl_within.f a0 a1 = some r) :
    Calls Try.prog 37 #[.int .i64 a0, .int .i64 a1] w fun e w' => e = .returned (.bool r) ∧ Drawn0 w w' := by
  have H : (if (wrap64 (-a1)) ≤ a0 then (some (decide (a0 ≤ a1))) else (some false)) = some r := h
  clear h
  by_cases c3 : (wrap64 (-a1)) ≤ a0
  · rw [if_pos c3] at H
    have c3b0 : decide ((wrap64 (-a1)) ≤ a0) = true := decide_eq_true c3
    clear c3
    obtain rfl := Option.some.inj H
    go_enter Try.func37, Try.ntmps37
    go_wp2
    go_ret
    exact ⟨qq14, qq26⟩
  · rw [if_neg c3] at H
    have c3b0 : decide ((wrap64 (-a1)) ≤ a0) = false := decide_eq_false c3
    clear c3
    obtain rfl := Option.some.inj H
    go_enter Try.func37, Try.ntmps37
    go_wp2
    go_ret
    exact ⟨qq14, qq26⟩

/-! ### bits_Mul32: function 68 -/
/-! ### bits_Mul64: function 69 -/
def bits_Mul64.f (a0 : Int) (a1 : Int) : Option (Int × Int) := some (IntKind.u64.wrap ((IntKind.u64.wrap ((IntKind.u64.wrap ((a0 / 4294967296) * (a1 / 4294967296))) + ((IntKind.u64.wrap ((IntKind.u64.wrap ((a0 / 4294967296) * (Go.bits .and .u64 a1 4294967295))) + ((IntKind.u64.wrap ((Go.bits .and .u64 a0 4294967295) * (Go.bits .and .u64 a1 4294967295))) / 4294967296))) / 4294967296))) + ((IntKind.u64.wrap ((Go.bits .and .u64 (IntKind.u64.wrap ((IntKind.u64.wrap ((a0 / 4294967296) * (Go.bits .and .u64 a1 4294967295))) + ((IntKind.u64.wrap ((Go.bits .and .u64 a0 4294967295) * (Go.bits .and .u64 a1 4294967295))) / 4294967296))) 4294967295) + (IntKind.u64.wrap ((Go.bits .and .u64 a0 4294967295) * (a1 / 4294967296))))) / 4294967296)), IntKind.u64.wrap (a0 * a1))
set_option maxHeartbeats 8000000 in
set_option maxRecDepth 100000 in
theorem bits_Mul64.calls (a0 : Int) (a1 : Int) (r1 : Int) (r2 : Int) (w : World) (h : bits_Mul64.f a0 a1 = some (r1, r2)) :
    Calls Try.prog 69 #[.int .u64 a0, .int .u64 a1] w fun e w' => e = .returned (.tuple #[.int .u64 r1, .int .u64 r2]) ∧ Drawn0 w w' := by
  have H : (some (IntKind.u64.wrap ((IntKind.u64.wrap ((IntKind.u64.wrap ((a0 / 4294967296) * (a1 / 4294967296))) + ((IntKind.u64.wrap ((IntKind.u64.wrap ((a0 / 4294967296) * (Go.bits .and .u64 a1 4294967295))) + ((IntKind.u64.wrap ((Go.bits .and .u64 a0 4294967295) * (Go.bits .and .u64 a1 4294967295))) / 4294967296))) / 4294967296))) + ((IntKind.u64.wrap ((Go.bits .and .u64 (IntKind.u64.wrap ((IntKind.u64.wrap ((a0 / 4294967296) * (Go.bits .and .u64 a1 4294967295))) + ((IntKind.u64.wrap ((Go.bits .and .u64 a0 4294967295) * (Go.bits .and .u64 a1 4294967295))) / 4294967296))) 4294967295) + (IntKind.u64.wrap ((Go.bits .and .u64 a0 4294967295) * (a1 / 4294967296))))) / 4294967296)), IntKind.u64.wrap (a0 * a1))) = some (r1, r2) := h
  clear h
  simp only [Option.some.injEq, Prod.mk.injEq] at H
  obtain ⟨rfl, rfl⟩ := H
  go_enter Try.func69, Try.ntmps69
  go_wp2
  go_ret2
  exact ⟨qq14, qq26⟩

/-! ### bits_Mul: function 63 -/
def bits_Mul.f (a0 : Int) (a1 : Int) : Option (Int × Int) := (bits_Mul64.f a0 a1).bind fun bt208 => (some (bt208.1, bt208.2))
set_option maxHeartbeats 8000000 in
set_option maxRecDepth 100000 in
theorem bits_Mul.calls (a0 : Int) (a1 : Int) (r1 : Int) (r2 : Int) (w : World) (h : bits_Mul.f a0 a1 = some (r1, r2)) :
    Calls Try.prog 63 #[.int .u64 a0, .int .u64 a1] w fun e w' => e = .returned (.tuple #[.int .u64 r1, .int .u64 r2]) ∧ Drawn0 w w' := by
  have H : ((bits_Mul64.f a0 a1).bind fun bt208 => (some (bt208.1, bt208.2))) = some (r1, r2) := h
  clear h
  replace H := Option.bind_eq_some_iff.mp H
  obtain ⟨⟨t208, t209⟩, A30, H⟩ := H
  replace H : (some (t208, t209)) = some (r1, r2) := H
  have A3 := Aside0.mk A30
  clear A30
  simp only [Option.some.injEq, Prod.mk.injEq] at H
  obtain ⟨rfl, rfl⟩ := H
  go_enter Try.func63, Try.ntmps63
  go_wp2_with (first | ((with_reducible refine gate_callee (f := 69) rfl ?_); refine goesL_ (some 25) rfl rfl Try.func69 (by kernel_rfl) rfl #[.int .u64 a0, .int .u64 a1] rfl qq5 ?_; (with_reducible refine (bits_Mul64.calls a0 a1 t208 t209 _ A3.out).mono ?_); rintro e w' ⟨rfl, ⟨nd, rfl⟩⟩; refine ⟨_, rfl, ?_⟩))
  go_ret2
  exact ⟨qq14, qq26⟩

/-! ### impl_pick: function 27 -/
def impl_pick.l0 : Nat → List (S32) → List (S32) → List Int → Int → Int → Option ((List (S32)))
  | 0, _, _, _, _, _ => none
  | k + 1, x0, x5, x11, x12, x13 => if x13 < x12 then (if 0 ≤ x13 then (if x13 < (x11.length : Int) then (if 0 ≤ (rd x11 x13) then (if (rd x11 x13) < (x0.length : Int) then (if x5.length < 4398046511104 then (impl_pick.l0 k x0 (x5 ++ [(⟨(rd_T32 x0 (rd x11 x13)).f0, (rd_T32 x0 (rd x11 x13)).f1, (rd_T32 x0 (rd x11 x13)).f2, (rd_T32 x0 (rd x11 x13)).f3⟩ : S32)]) x11 x12 (wrap64 (x13 + 1))) else (none)) else (none)) else (none)) else (none)) else (none)) else (some x5)
def impl_pick.f (k : Nat) (l0 : List (S32)) (l1 : List Int) : Option ((List (S32))) := if 0 ≤ (l1.length : Int) then (if ((l1.length : Int) : Int).toNat ≤ 8796093022208 then (impl_pick.l0 k l0 (([] : List (S32))) l1 (l1.length : Int) 0) else (none)) else (none)
set_option maxHeartbeats 8000000 in
set_option maxRecDepth 100000 in
theorem impl_pick.calls (k : Nat) (A0 : Option Addr) (c0 : Nat) (l0 : List (S32)) (A1 : Option Addr) (c1 : Nat) (l1 : List Int) (r : List (S32)) (w : World) (hr0 : Kd.C k32 w A0 l0.length l0) (hc0 : l0.length ≤ c0) (hr1 : Kd.C (Kd.int .i64) w A1 l1.length l1) (hc1 : l1.length ≤ c1) (h : impl_pick.f k l0 l1 = some r) :
    Calls Try.prog 27 #[.slice A0 l0.length c0, .slice A1 l1.length c1] w fun e w' => ∃ v0_ : Value, e = .returned (v0_) ∧ Kd.R k32 32 w' w.heap.size (fun _ => True) v0_ r ∧ Below w.heap.size w w' := by
  have hu32 := Try.underlying32
  have HR0 := Aside0.mk hr0
  have HC0 := Aside0.mk hc0
  clear hr0 hc0
  have HR1 := Aside0.mk hr1
  have HC1 := Aside0.mk hc1
  clear hr1 hc1
  have HB := Aside0.mk (Below.refl w.heap.size w)
  have H : (if 0 ≤ (l1.length : Int) then (if ((l1.length : Int) : Int).toNat ≤ 8796093022208 then (impl_pick.l0 k l0 (([] : List (S32))) l1 (l1.length : Int) 0) else (none)) else (none)) = some r := h
  clear h
  by_cases c3 : 0 ≤ (l1.length : Int)
  · rw [if_pos c3] at H
    have c3b0 := eq_true c3
    have c3b1 : decide (0 ≤ (l1.length : Int)) = true := decide_eq_true c3
    clear c3
    by_cases c4 : ((l1.length : Int) : Int).toNat ≤ 8796093022208
    · rw [if_pos c4] at H
      have c4b0 := eq_true c4
      have c4b1 : decide (((l1.length : Int) : Int).toNat ≤ 8796093022208) = true := decide_eq_true c4
      clear c4
      obtain ⟨y215, hy215⟩ : ∃ y_ : List (S32), y_ = (([] : List (S32))) := ⟨_, rfl⟩
      replace H : (impl_pick.l0 k l0 y215 l1 (l1.length : Int) 0) = some r := by first | (rw [hy215]; with_reducible exact H) | (have H2_ := (Option.bind_some _ _).symm.trans H; rw [hy215]; with_reducible exact H2_) | (have H2_ := (Option.bind_some _ _).symm.trans H; with_reducible exact H2_) | with_reducible exact H | (rw [hy215]; exact H) | exact H
      have Ny215 := Aside0.mk hy215
      clear hy215
      have H' := Aside0.mk H
      clear H
      go_enter Try.func27, Try.ntmps27
      go_wp2_with (first | ((with_reducible refine gate_dst (N := 10) rfl ?_); refine Kd.R_make0 k32 _ 32 rfl (N := 10) rfl 23 _ _ rfl (l1.length : Int) rfl rfl Try.underlying23 (.agg #[(.int .i64 0), (.int .i64 0), (.int .i64 0), (.int .i64 0)]) 32 info32 rfl (by decide) (by omega) z32 (ok := fun _ => True) (okp := fun _ => True) (k32_mkM _ _ _ z32 ) (fun _ hk => hk) trivial (of_decide_eq_true qq3) (Nat.le_trans (Nat.mul_le_mul_right _ (of_decide_eq_true qq3 : (l1.length : Int).toNat ≤ 8796093022208)) (by omega)) (Below.refl _ _) (Nat.le_refl _) ?_; intro v216 w5 ho6 hb hg_ hnew_; clear hg_ hnew_; (first | rw [← Ny215.out] at ho6 | (simp only [Int.reduceToNat] at ho6; rw [← Ny215.out] at ho6)); have n0_ := Aside0.mk (Kd.R_lower ho6 (below_size qq1)); have n1_ := Aside0.mk (below_step qq1 hb); clear HB; have HO217 := n0_; have HB := n1_; clear n0_ n1_; clear hb ho6))
      go_loopg [5, 13] k (fun kq v5 v13 w' => ∃ (x5_1 : List (S32)) (x13_1 : Int), v13 = .int .i64 x13_1 ∧ Aside0 (impl_pick.l0 kq l0 x5_1 l1 (l1.length : Int) x13_1 = some r) ∧ Aside0 (kq ≤ k) ∧ Aside0 (Kd.R k32 32 w' w.heap.size (fun _ => True) v5 x5_1) ∧ Aside0 (Below w.heap.size w w'))
      case atStart => exact ⟨(y215), (0), qq14, H', ⟨Nat.le_refl _⟩, ⟨qq2 HO217.out⟩, ⟨qq1⟩⟩
      case round =>
        clear H'
        try clear c1
        try clear c2
        try clear p2
        try clear c3
        try clear c3b0
        try clear c3b1
        try clear c4
        try clear c4b0
        try clear c4b1
        obtain ⟨x5_1, x13_1, rfl, HA, HK1, HO_5, HB⟩ := hrel
        cases gk with
        | zero => exact absurd HA.out (by simp [impl_pick.l0])
        | succ k1 =>
          have H := HA.out
          clear HA
          simp only [impl_pick.l0] at H
          by_cases c7 : x13_1 < (l1.length : Int)
          · rw [if_pos c7] at H
            have c7b0 : decide (x13_1 < (l1.length : Int)) = true := decide_eq_true c7
            clear c7
            by_cases c8 : 0 ≤ x13_1
            · rw [if_pos c8] at H
              have c8b0 : decide (0 ≤ x13_1) = true := decide_eq_true c8
              clear c8
              by_cases c9 : x13_1 < (l1.length : Int)
              · rw [if_pos c9] at H
                have c9b0 : decide (x13_1 < (l1.length : Int)) = true := decide_eq_true c9
                clear c9
                by_cases c10 : 0 ≤ (rd l1 x13_1)
                · rw [if_pos c10] at H
                  have c10b0 : decide (0 ≤ (rd l1 x13_1)) = true := decide_eq_true c10
                  clear c10
                  by_cases c11 : (rd l1 x13_1) < (l0.length : Int)
                  · rw [if_pos c11] at H
                    have c11b0 : decide ((rd l1 x13_1) < (l0.length : Int)) = true := decide_eq_true c11
                    clear c11
                    by_cases c12 : x5_1.length < 4398046511104
                    · rw [if_pos c12] at H
                      have LMc12 := Aside0.mk c12
                      clear c12
                      obtain ⟨y220, hy220⟩ : ∃ y_ : List (S32), y_ = (x5_1 ++ [(⟨(rd_T32 l0 (rd l1 x13_1)).f0, (rd_T32 l0 (rd l1 x13_1)).f1, (rd_T32 l0 (rd l1 x13_1)).f2, (rd_T32 l0 (rd l1 x13_1)).f3⟩ : S32)]) := ⟨_, rfl⟩
                      replace H : (impl_pick.l0 k1 l0 y220 l1 (l1.length : Int) (wrap64 (x13_1 + 1))) = some r := by first | (rw [hy220]; with_reducible exact H) | (have H2_ := (Option.bind_some _ _).symm.trans H; rw [hy220]; with_reducible exact H2_) | (have H2_ := (Option.bind_some _ _).symm.trans H; with_reducible exact H2_) | with_reducible exact H | (rw [hy220]; exact H) | exact H
                      have Ny220 := Aside0.mk hy220
                      clear hy220
                      have H' := Aside0.mk H
                      clear H
                      have p218 : 0 ≤ (x13_1 : Int) := of_decide_eq_true qq3
                      have q218 : x13_1 < (l1.length : Int) := of_decide_eq_true qq3
                      obtain ⟨ad218, e218, hx218_0⟩ := Kd.at_int HR1.out x13_1 p218 q218
                      cases e218
                      replace hx218_0 := (HB.out.cell (World.block_lt_of_cell? w _ hx218_0)).trans hx218_0
                      replace p218 := eq_true p218
                      replace q218 := eq_true q218
                      have p219 : 0 ≤ ((rd l1 x13_1) : Int) := of_decide_eq_true qq3
                      have q219 : (rd l1 x13_1) < (l0.length : Int) := of_decide_eq_true qq3
                      obtain ⟨ad219, e219, hx219_0, hx219_1, hx219_2, hx219_3⟩ := at_T32 HR0.out (rd l1 x13_1) p219 q219
                      cases e219
                      replace hx219_0 := (HB.out.cell (World.block_lt_of_cell? w _ hx219_0)).trans hx219_0
                      replace hx219_1 := (HB.out.cell (World.block_lt_of_cell? w _ hx219_1)).trans hx219_1
                      replace hx219_2 := (HB.out.cell (World.block_lt_of_cell? w _ hx219_2)).trans hx219_2
                      replace hx219_3 := (HB.out.cell (World.block_lt_of_cell? w _ hx219_3)).trans hx219_3
                      replace p219 := eq_true p219
                      replace q219 := eq_true q219
                      go_wp2_with (first | ((with_reducible refine gate_builtin (b := .append) (xs := #[.tmp 17, .tmp 22]) rfl ?_); at_builtin; refine Kd.R_append k32 (w0 := w) w.heap.size rfl (.tmp 17) (.tmp 22) 23 32 (.agg #[(.int .i64 0), (.int .i64 0), (.int .i64 0), (.int .i64 0)]) 32 rfl Try.underlying23 info32 rfl (by decide) (by omega) u5 x5_1 (⟨(rd_T32 l0 (rd l1 x13_1)).f0, (rd_T32 l0 (rd l1 x13_1)).f1, (rd_T32 l0 (rd l1 x13_1)).f2, (rd_T32 l0 (rd l1 x13_1)).f3⟩ : S32) [.int .i64 ((rd_T32 l0 (rd l1 x13_1)).f0), .int .i64 ((rd_T32 l0 (rd l1 x13_1)).f1), .int .i64 ((rd_T32 l0 (rd l1 x13_1)).f2), .int .i64 ((rd_T32 l0 (rd l1 x13_1)).f3)] (fun _ => True) (fun _ => False) rfl rfl ?aP (fun _ hk => hk.elim) ?aF ?aO ?aB ?aS ?aL ?_; (case aP => exact k32_mkM _ _ _ (⟨(rd_T32 l0 (rd l1 x13_1)).f0, (rd_T32 l0 (rd l1 x13_1)).f1, (rd_T32 l0 (rd l1 x13_1)).f2, (rd_T32 l0 (rd l1 x13_1)).f3⟩ : S32)); (case aB => exact qq1); (case aF => exact qq77); (case aO => exact (qq2 HO_5.out)); (case aS => exact (below_size qq1)); (case aL => have := LMc12.out; omega); intro v221 w13 ho hb hg hat; rw [← Ny220.out] at ho; have n0_ := Aside0.mk (hb); have n1_ := Aside0.mk (ho); clear HB; clear HO_5; have HB := n0_; have HO222 := n1_; clear n0_ n1_; clear ho hb hg hat))
                      go_roundg k1
                      case measure => have := HK1.out; omega
                      case rel => exact ⟨(y220), (wrap64 (x13_1 + 1)), qq14, H', ⟨by have := HK1.out; omega⟩, ⟨qq2 HO222.out⟩, ⟨qq1⟩⟩
                    · rw [if_neg c12] at H
                      exact absurd H (by simp)
                  · rw [if_neg c11] at H
                    exact absurd H (by simp)
                · rw [if_neg c10] at H
                  exact absurd H (by simp)
              · rw [if_neg c9] at H
                exact absurd H (by simp)
            · rw [if_neg c8] at H
              exact absurd H (by simp)
          · rw [if_neg c7] at H
            have c7b0 : decide (x13_1 < (l1.length : Int)) = false := decide_eq_false c7
            clear c7
            obtain rfl := Option.some.inj H
            go_wp2
            go_ret
            exact ⟨_, qq11, qq2 HO_5.out, qq1⟩
    · rw [if_neg c4] at H
      exact absurd H (by simp)
  · rw [if_neg c3] at H
    exact absurd H (by simp)

/-! ### slices_Index_int_int: function 64 -/
def slices_Index_int_int.l0 : Nat → List Int → Int → Int → Int → Option (Int)
  | 0, _, _, _, _ => none
  | k + 1, x0, x1, x7, x8 => if x8 < x7 then (if 0 ≤ x8 then (if x8 < (x0.length : Int) then (if x1 = (rd x0 x8) then (some x8) else (slices_Index_int_int.l0 k x0 x1 x7 (wrap64 (x8 + 1)))) else (none)) else (none)) else (some (-1))
def slices_Index_int_int.f (k : Nat) (l0 : List Int) (a1 : Int) : Option (Int) := slices_Index_int_int.l0 k l0 a1 (l0.length : Int) 0
set_option maxHeartbeats 8000000 in
set_option maxRecDepth 100000 in
theorem slices_Index_int_int.calls (k : Nat) (A0 : Option Addr) (c0 : Nat) (l0 : List Int) (a1 : Int) (r : Int) (w : World) (hr0 : Kd.C (Kd.int .i64) w A0 l0.length l0) (hc0 : l0.length ≤ c0) (h : slices_Index_int_int.f k l0 a1 = some r) :
    Calls Try.prog 64 #[.slice A0 l0.length c0, .int .i64 a1] w fun e w' => e = .returned (.int .i64 r) ∧ Drawn0 w w' := by
  have HR0 := Aside0.mk hr0
  have HC0 := Aside0.mk hc0
  clear hr0 hc0
  have H : (slices_Index_int_int.l0 k l0 a1 (l0.length : Int) 0) = some r := h
  clear h
  have H' := Aside0.mk H
  clear H
  go_enter Try.func64, Try.ntmps64
  go_wp2
  go_loopg [8] k (fun kq v8 w' => ∃ (x8_1 : Int), v8 = .int .i64 x8_1 ∧ Aside0 (slices_Index_int_int.l0 kq l0 a1 (l0.length : Int) x8_1 = some r) ∧ Aside0 (kq ≤ k) ∧ Drawn0 w w')
  case atStart => exact ⟨(0), qq14, H', ⟨Nat.le_refl _⟩, qq26⟩
  case round =>
    clear H'
    try clear p2
    obtain ⟨x8_1, rfl, HA, HK1, ⟨m1, rfl⟩⟩ := hrel
    cases gk with
    | zero => exact absurd HA.out (by simp [slices_Index_int_int.l0])
    | succ k1 =>
      have H := HA.out
      clear HA
      simp only [slices_Index_int_int.l0] at H
      by_cases c3 : x8_1 < (l0.length : Int)
      · rw [if_pos c3] at H
        have c3b0 : decide (x8_1 < (l0.length : Int)) = true := decide_eq_true c3
        clear c3
        by_cases c4 : 0 ≤ x8_1
        · rw [if_pos c4] at H
          have c4b0 : decide (0 ≤ x8_1) = true := decide_eq_true c4
          clear c4
          by_cases c5 : x8_1 < (l0.length : Int)
          · rw [if_pos c5] at H
            have c5b0 : decide (x8_1 < (l0.length : Int)) = true := decide_eq_true c5
            clear c5
            by_cases c6 : a1 = (rd l0 x8_1)
            · rw [if_pos c6] at H
              have c6b0 : (a1 == (rd l0 x8_1)) = true := beq_iff_eq.mpr c6
              have c6b1 : (a1 != (rd l0 x8_1)) = false := bne_eq_false_iff_eq.mpr c6
              clear c6
              obtain rfl := Option.some.inj H
              have p243 : 0 ≤ (x8_1 : Int) := of_decide_eq_true qq3
              have q243 : x8_1 < (l0.length : Int) := of_decide_eq_true qq3
              obtain ⟨ad243, e243, hx243_0⟩ := Kd.at_int HR0.out x8_1 p243 q243
              cases e243
              replace p243 := eq_true p243
              replace q243 := eq_true q243
              go_wp2
              go_ret
              exact ⟨qq14, qq26⟩
            · rw [if_neg c6] at H
              have c6b0 : (a1 == (rd l0 x8_1)) = false := beq_eq_false_iff_ne.mpr c6
              have c6b1 : (a1 != (rd l0 x8_1)) = true := bne_iff_ne.mpr c6
              have H' := Aside0.mk H
              clear H
              have p243 : 0 ≤ (x8_1 : Int) := of_decide_eq_true qq3
              have q243 : x8_1 < (l0.length : Int) := of_decide_eq_true qq3
              obtain ⟨ad243, e243, hx243_0⟩ := Kd.at_int HR0.out x8_1 p243 q243
              cases e243
              replace p243 := eq_true p243
              replace q243 := eq_true q243
              go_wp2
              go_roundg k1
              case measure => have := HK1.out; omega
              case rel => exact ⟨(wrap64 (x8_1 + 1)), qq14, H', ⟨by have := HK1.out; omega⟩, qq26⟩
          · rw [if_neg c5] at H
            exact absurd H (by simp)
        · rw [if_neg c4] at H
          exact absurd H (by simp)
      · rw [if_neg c3] at H
        have c3b0 : decide (x8_1 < (l0.length : Int)) = false := decide_eq_false c3
        clear c3
        obtain rfl := Option.some.inj H
        go_wp2
        go_ret
        exact ⟨qq14, qq26⟩

/-! ### slices_Contains_int_int: function 48 -/
def slices_Contains_int_int.f (k : Nat) (l0 : List Int) (a1 : Int) : Option (Bool) := (slices_Index_int_int.f k l0 a1).bind fun t244 => (some (decide (t244 ≥ 0)))
set_option maxHeartbeats 8000000 in
set_option maxRecDepth 100000 in
theorem slices_Contains_int_int.calls (k : Nat) (A0 : Option Addr) (c0 : Nat) (l0 : List Int) (a1 : Int) (r : Bool) (w : World) (hr0 : Kd.C (Kd.int .i64) w A0 l0.length l0) (hc0 : l0.length ≤ c0) (h : slices_Contains_int_int.f k l0 a1 = some r) :
    Calls Try.prog 48 #[.slice A0 l0.length c0, .int .i64 a1] w fun e w' => e = .returned (.bool r) ∧ Drawn0 w w' := by
  have HR0 := Aside0.mk hr0
  have HC0 := Aside0.mk hc0
  clear hr0 hc0
  have H : ((slices_Index_int_int.f k l0 a1).bind fun t244 => (some (decide (t244 ≥ 0)))) = some r := h
  clear h
  replace H := Option.bind_eq_some_iff.mp H
  obtain ⟨t244, A30, H⟩ := H
  replace H : (some (decide (t244 ≥ 0))) = some r := H
  have A3 := Aside0.mk A30
  clear A30
  obtain rfl := Option.some.inj H
  go_enter Try.func48, Try.ntmps48
  go_wp2_with (first | ((with_reducible refine gate_callee (f := 64) rfl ?_); refine goesL_ (some 7) rfl rfl Try.func64 (by kernel_rfl) rfl #[.slice A0 l0.length c0, .int .i64 a1] rfl qq5 ?_; (with_reducible refine (slices_Index_int_int.calls k _ _ l0 a1 t244 _ ?side1 ?side2 A3.out).mono ?_); (case side1 => exact qq15 HR0.out); (case side2 => exact HC0.out); rintro e w' ⟨rfl, ⟨nd, rfl⟩⟩; refine ⟨_, rfl, ?_⟩))
  go_ret
  exact ⟨qq14, qq26⟩

end Go.Proofs.Ytmcfhmflncghiaa.Q
namespace Go.Proofs.Ytmcfhmflncghiaa.Q
open Go.RowKit Go.Proofs.YtmcfhmflncghiaaW.PrintWords Go.Proofs.YtmcfhmflncghiaaW.PrintLast Go.Proofs.YtmcfhmflncghiaaW.PrintMore
attribute [local go_sem] max2_int min2_int max_two min_two max_three min_three max_four min_four
set_option linter.unusedVariables false
set_option linter.unusedSimpArgs false

/-! ### spec_NetValid: function 45 -/
mutual
def spec_NetValid.j0 : Nat → Int → List (S32) → Bool → Option (Bool)
  | 0, _, _, _ => none
  | k + 1, x0, x1, x14 => if x14 = true then (some false) else (spec_NetValid.l0 k x0 x1 0)
def spec_NetValid.l0 : Nat → Int → List (S32) → Int → Option (Bool)
  | 0, _, _, _ => none
  | k + 1, x0, x1, x5 => if x5 < (x1.length : Int) then (if 0 ≤ x5 then ((spec_l6In.f ((rd_T32 x1 x5).f0) 0 (wrap64 (x0 - 1))).bind fun t161 => (if t161 = true then ((spec_l6In.f ((rd_T32 x1 x5).f1) 0 (wrap64 (x0 - 1))).bind fun t162 => (if t162 = true then (spec_NetValid.j2 k x0 x1 x5 (((rd_T32 x1 x5).f0) == ((rd_T32 x1 x5).f1)) ((rd_T32 x1 x5).f0) ((rd_T32 x1 x5).f1) ((rd_T32 x1 x5).f2) ((rd_T32 x1 x5).f3)) else (spec_NetValid.j2 k x0 x1 x5 true ((rd_T32 x1 x5).f0) ((rd_T32 x1 x5).f1) ((rd_T32 x1 x5).f2) ((rd_T32 x1 x5).f3)))) else (spec_NetValid.j2 k x0 x1 x5 true ((rd_T32 x1 x5).f0) ((rd_T32 x1 x5).f1) ((rd_T32 x1 x5).f2) ((rd_T32 x1 x5).f3)))) else (none)) else (some true)
def spec_NetValid.j2 : Nat → Int → List (S32) → Int → Bool → Int → Int → Int → Int → Option (Bool)
  | 0, _, _, _, _, _, _, _, _ => none
  | k + 1, x0, x1, x5, x45, x161000, x161001, x161002, x161003 => if x45 = true then (some false) else ((spec_l6In.f x161002 (-100000) 100000).bind fun t163 => (if t163 = true then ((spec_l6In.f x161003 1 9).bind fun t164 => (if t164 = true then (spec_NetValid.l0 k x0 x1 (wrap64 (x5 + 1))) else (some false))) else (some false)))
end
def spec_NetValid.f (k : Nat) (a0 : Int) (l1 : List (S32)) : Option (Bool) := (spec_l6In.f a0 2 6).bind fun t158 => (if t158 = true then (spec_NetValid.j0 k a0 l1 (decide ((l1.length : Int) > 12))) else (spec_NetValid.j0 k a0 l1 true))
set_option maxHeartbeats 8000000 in
set_option maxRecDepth 100000 in
theorem spec_NetValid.calls (k : Nat) (a0 : Int) (A1 : Option Addr) (c1 : Nat) (l1 : List (S32)) (r : Bool) (w : World) (hr1 : Kd.C k32 w A1 l1.length l1) (hc1 : l1.length ≤ c1) (h : spec_NetValid.f k a0 l1 = some r) :
    Calls Try.prog 45 #[.int .i64 a0, .slice A1 l1.length c1] w fun e w' => e = .returned (.bool r) ∧ Below w.heap.size w w' := by
  have hu32 := Try.underlying32
  have HR1 := Aside0.mk hr1
  have HC1 := Aside0.mk hc1
  clear hr1 hc1
  have HB := Aside0.mk (Below.refl w.heap.size w)
  have H : ((spec_l6In.f a0 2 6).bind fun t158 => (if t158 = true then (spec_NetValid.j0 k a0 l1 (decide ((l1.length : Int) > 12))) else (spec_NetValid.j0 k a0 l1 true))) = some r := h
  clear h
  have HC3 := Aside0.mk H
  clear H
  go_enter Try.func45, Try.ntmps45
  go_upto_region 1 with (fail)
  go_cut [14] (fun v14 wc => ∃ (kq : Nat) (x14_2 : Bool), v14 = .bool x14_2 ∧ Aside0 (spec_NetValid.j0 kq a0 l1 x14_2 = some r) ∧ Aside0 (kq ≤ k) ∧ Aside0 (Below w.heap.size w wc))
  case first =>
    have H := HC3.out
    clear HC3
    replace H := Option.bind_eq_some_iff.mp H
    obtain ⟨t158, A40, H⟩ := H
    replace H : (if t158 = true then (spec_NetValid.j0 k a0 l1 (decide ((l1.length : Int) > 12))) else (spec_NetValid.j0 k a0 l1 true)) = some r := H
    have A4 := Aside0.mk A40
    clear A40
    by_cases c5 : t158 = true
    · subst c5
      have H1 : (spec_NetValid.j0 k a0 l1 (decide ((l1.length : Int) > 12))) = some r := by rw [if_pos rfl] at H; exact H
      clear H
      have H := H1
      clear H1
      have H' := Aside0.mk H
      clear H
      go_wp2_with (first | ((with_reducible refine gate_callee (f := 40) rfl ?_); refine goesL_ (some 8) rfl rfl Try.func40 (by kernel_rfl) rfl #[.int .i64 a0, .int .i64 2, .int .i64 6] rfl qq5 ?_; (with_reducible refine (spec_l6In.calls a0 2 6 true _ A4.out).mono ?_); rintro e w' ⟨rfl, ⟨nd, rfl⟩⟩; refine ⟨_, rfl, ?_⟩))
      go_meet
      case rel => exact ⟨_, (decide ((l1.length : Int) > 12)), qq14, H', ⟨qq46⟩, ⟨qq1⟩⟩
    · replace c5 := Bool.eq_false_iff.mpr c5
      subst c5
      have H1 : (spec_NetValid.j0 k a0 l1 true) = some r := by rw [if_neg (show ¬ (false = true) by decide)] at H; exact H
      clear H
      have H := H1
      clear H1
      have H' := Aside0.mk H
      clear H
      go_wp2_with (first | ((with_reducible refine gate_callee (f := 40) rfl ?_); refine goesL_ (some 8) rfl rfl Try.func40 (by kernel_rfl) rfl #[.int .i64 a0, .int .i64 2, .int .i64 6] rfl qq5 ?_; (with_reducible refine (spec_l6In.calls a0 2 6 false _ A4.out).mono ?_); rintro e w' ⟨rfl, ⟨nd, rfl⟩⟩; refine ⟨_, rfl, ?_⟩))
      go_meet
      case rel => exact ⟨_, (true), qq14, H', ⟨qq46⟩, ⟨qq1⟩⟩
  case rest =>
    clear HC3
    try clear c1
    try clear p2
    try clear c4
    try clear c5
    obtain ⟨kq, x14_2, rfl, HA, HJ2, HB⟩ := hcut
    cases kq with
    | zero => exact absurd HA.out (by simp [spec_NetValid.j0])
    | succ kj2 =>
      have H := HA.out
      clear HA
      simp only [spec_NetValid.j0] at H
      by_cases c6 : x14_2 = true
      · subst c6
        have H1 : (some false) = some r := by rw [if_pos rfl] at H; exact H
        clear H
        have H := H1
        clear H1
        obtain rfl := Option.some.inj H
        go_wp2
        go_ret
        exact ⟨qq11, qq1⟩
      · replace c6 := Bool.eq_false_iff.mpr c6
        subst c6
        have H1 : (spec_NetValid.l0 kj2 a0 l1 0) = some r := by rw [if_neg (show ¬ (false = true) by decide)] at H; exact H
        clear H
        have H := H1
        clear H1
        have H' := Aside0.mk H
        clear H
        go_wp2
        go_loopg [5] kj2 (fun kq v5 w' => ∃ (x5_2 : Int), v5 = .int .i64 x5_2 ∧ Aside0 (spec_NetValid.l0 kq a0 l1 x5_2 = some r) ∧ Aside0 (kq ≤ kj2) ∧ Aside0 (Below w.heap.size w w'))
        case atStart => exact ⟨(0), qq14, H', ⟨Nat.le_refl _⟩, ⟨qq1⟩⟩
        case round =>
          clear H'
          try clear c1
          try clear p2
          try clear c4
          try clear c5
          try clear c6
          try clear p2
          obtain ⟨x5_2, rfl, HA, HK2, HB⟩ := hrel
          cases gk with
          | zero => exact absurd HA.out (by simp [spec_NetValid.l0])
          | succ k2 =>
            have H := HA.out
            clear HA
            simp only [spec_NetValid.l0] at H
            by_cases c7 : x5_2 < (l1.length : Int)
            · rw [if_pos c7] at H
              have c7b0 : decide (x5_2 < (l1.length : Int)) = true := decide_eq_true c7
              clear c7
              by_cases c8 : 0 ≤ x5_2
              · rw [if_pos c8] at H
                have c8b0 : decide (0 ≤ x5_2) = true := decide_eq_true c8
                clear c8
                have HC9 := Aside0.mk H
                clear H
                have p159 : 0 ≤ (x5_2 : Int) := of_decide_eq_true qq3
                have q159 : x5_2 < (l1.length : Int) := of_decide_eq_true qq3
                obtain ⟨ad159, e159, hx159_0, hx159_1, hx159_2, hx159_3⟩ := at_T32 HR1.out x5_2 p159 q159
                cases e159
                replace hx159_0 := (HB.out.cell (World.block_lt_of_cell? w _ hx159_0)).trans hx159_0
                replace hx159_1 := (HB.out.cell (World.block_lt_of_cell? w _ hx159_1)).trans hx159_1
                replace hx159_2 := (HB.out.cell (World.block_lt_of_cell? w _ hx159_2)).trans hx159_2
                replace hx159_3 := (HB.out.cell (World.block_lt_of_cell? w _ hx159_3)).trans hx159_3
                replace p159 := eq_true p159
                replace q159 := eq_true q159
                go_upto_region 7 with (first | ((with_reducible refine gate_dst (N := 6) rfl ?_); (try (refine gate_guard (by rfl) ?_; dsimp only)); refine box_event ?hg (N := 6) ?hd (cs := #[.int .i64 0, .int .i64 0, .int .i64 0, .int .i64 0]) (t := 32) ?hr ?_; (case hd => rfl); (case hg => rfl); (case hr => exact qq16); intro gb160 hg w10 hbox hb; have n0_ := Aside0.mk (below_step qq1 hb); have n1_ := Aside0.mk (hbox); have n2_ := Aside0.mk ((qq34 : w.heap.size ≤ gb160)); have n3_ := Aside0.mk ((qq34 : w.heap.size ≤ gb160)); clear HB; have HB := n0_; have BK160 := n1_; have GW160 := n2_; have GE160 := n3_; clear n0_ n1_ n2_ n3_; clear hb hbox hg; have hcz11_0 : w10.cell? ⟨gb160, 0, none⟩ = some (.int .i64 0) := (blk_cell BK160.out 0).trans rfl; have hcz11_1 : w10.cell? ⟨gb160, 1, none⟩ = some (.int .i64 0) := (blk_cell BK160.out 1).trans rfl; have hcz11_2 : w10.cell? ⟨gb160, 2, none⟩ = some (.int .i64 0) := (blk_cell BK160.out 2).trans rfl; have hcz11_3 : w10.cell? ⟨gb160, 3, none⟩ = some (.int .i64 0) := (blk_cell BK160.out 3).trans rfl; have hfz11_0 := blk_frozen BK160.out 0; have hfz11_1 := blk_frozen BK160.out 1; have hfz11_2 := blk_frozen BK160.out 2; have hfz11_3 := blk_frozen BK160.out 3))
                (try simp only [Act.put, List.setIfInBounds_toArray, List.set_cons_zero, List.set_cons_succ])
                go_cut [45] (fun v45 wc => ∃ (kq : Nat) (x45_8 : Bool), v45 = .bool x45_8 ∧ Aside0 (spec_NetValid.j2 kq a0 l1 x5_2 x45_8 ((rd_T32 l1 x5_2).f0) ((rd_T32 l1 x5_2).f1) ((rd_T32 l1 x5_2).f2) ((rd_T32 l1 x5_2).f3) = some r) ∧ Aside0 (kq ≤ k2) ∧ Aside0 (wc.heap[gb160]? = some (.cells #[.int .i64 ((rd_T32 l1 x5_2).f0), .int .i64 ((rd_T32 l1 x5_2).f1), .int .i64 ((rd_T32 l1 x5_2).f2), .int .i64 ((rd_T32 l1 x5_2).f3)] 32 (0, 0))) ∧ Aside0 (Below w.heap.size w wc))
                case first =>
                  have H := HC9.out
                  clear HC9
                  replace H := Option.bind_eq_some_iff.mp H
                  obtain ⟨t161, A120, H⟩ := H
                  replace H : (if t161 = true then ((spec_l6In.f ((rd_T32 l1 x5_2).f1) 0 (wrap64 (a0 - 1))).bind fun t162 => (if t162 = true then (spec_NetValid.j2 k2 a0 l1 x5_2 (((rd_T32 l1 x5_2).f0) == ((rd_T32 l1 x5_2).f1)) ((rd_T32 l1 x5_2).f0) ((rd_T32 l1 x5_2).f1) ((rd_T32 l1 x5_2).f2) ((rd_T32 l1 x5_2).f3)) else (spec_NetValid.j2 k2 a0 l1 x5_2 true ((rd_T32 l1 x5_2).f0) ((rd_T32 l1 x5_2).f1) ((rd_T32 l1 x5_2).f2) ((rd_T32 l1 x5_2).f3)))) else (spec_NetValid.j2 k2 a0 l1 x5_2 true ((rd_T32 l1 x5_2).f0) ((rd_T32 l1 x5_2).f1) ((rd_T32 l1 x5_2).f2) ((rd_T32 l1 x5_2).f3))) = some r := H
                  have A12 := Aside0.mk A120
                  clear A120
                  by_cases c13 : t161 = true
                  · subst c13
                    have H1 : ((spec_l6In.f ((rd_T32 l1 x5_2).f1) 0 (wrap64 (a0 - 1))).bind fun t162 => (if t162 = true then (spec_NetValid.j2 k2 a0 l1 x5_2 (((rd_T32 l1 x5_2).f0) == ((rd_T32 l1 x5_2).f1)) ((rd_T32 l1 x5_2).f0) ((rd_T32 l1 x5_2).f1) ((rd_T32 l1 x5_2).f2) ((rd_T32 l1 x5_2).f3)) else (spec_NetValid.j2 k2 a0 l1 x5_2 true ((rd_T32 l1 x5_2).f0) ((rd_T32 l1 x5_2).f1) ((rd_T32 l1 x5_2).f2) ((rd_T32 l1 x5_2).f3)))) = some r := by rw [if_pos rfl] at H; exact H
                    clear H
                    have H := H1
                    clear H1
                    replace H := Option.bind_eq_some_iff.mp H
                    obtain ⟨t162, A140, H⟩ := H
                    replace H : (if t162 = true then (spec_NetValid.j2 k2 a0 l1 x5_2 (((rd_T32 l1 x5_2).f0) == ((rd_T32 l1 x5_2).f1)) ((rd_T32 l1 x5_2).f0) ((rd_T32 l1 x5_2).f1) ((rd_T32 l1 x5_2).f2) ((rd_T32 l1 x5_2).f3)) else (spec_NetValid.j2 k2 a0 l1 x5_2 true ((rd_T32 l1 x5_2).f0) ((rd_T32 l1 x5_2).f1) ((rd_T32 l1 x5_2).f2) ((rd_T32 l1 x5_2).f3))) = some r := H
                    have A14 := Aside0.mk A140
                    clear A140
                    by_cases c15 : t162 = true
                    · subst c15
                      have H1 : (spec_NetValid.j2 k2 a0 l1 x5_2 (((rd_T32 l1 x5_2).f0) == ((rd_T32 l1 x5_2).f1)) ((rd_T32 l1 x5_2).f0) ((rd_T32 l1 x5_2).f1) ((rd_T32 l1 x5_2).f2) ((rd_T32 l1 x5_2).f3)) = some r := by rw [if_pos rfl] at H; exact H
                      clear H
                      have H := H1
                      clear H1
                      have H' := Aside0.mk H
                      clear H
                      have hcz16_0 : w10.cell? ⟨gb160, 0, none⟩ = some (.int .i64 0) := (blk_cell BK160.out 0).trans rfl
                      have hcz16_1 : w10.cell? ⟨gb160, 1, none⟩ = some (.int .i64 0) := (blk_cell BK160.out 1).trans rfl
                      have hcz16_2 : w10.cell? ⟨gb160, 2, none⟩ = some (.int .i64 0) := (blk_cell BK160.out 2).trans rfl
                      have hcz16_3 : w10.cell? ⟨gb160, 3, none⟩ = some (.int .i64 0) := (blk_cell BK160.out 3).trans rfl
                      have hfz16_0 := blk_frozen BK160.out 0
                      have hfz16_1 := blk_frozen BK160.out 1
                      have hfz16_2 := blk_frozen BK160.out 2
                      have hfz16_3 := blk_frozen BK160.out 3
                      go_wp2_with (first | ((with_reducible refine gate_callee (f := 40) rfl ?_); refine goesL_ (some 29) rfl rfl Try.func40 (by kernel_rfl) rfl #[.int .i64 ((rd_T32 l1 x5_2).f0), .int .i64 0, .int .i64 (wrap64 (a0 - 1))] rfl qq5 ?_; (with_reducible refine (spec_l6In.calls ((rd_T32 l1 x5_2).f0) 0 (wrap64 (a0 - 1)) true _ A12.out).mono ?_); rintro e w' ⟨rfl, ⟨nd, rfl⟩⟩; refine ⟨_, rfl, ?_⟩) | (go_at_call 40; (with_reducible refine (spec_l6In.calls ((rd_T32 l1 x5_2).f1) 0 (wrap64 (a0 - 1)) true _ A14.out).mono ?_); rintro e w' ⟨rfl, ⟨nd, rfl⟩⟩))
                      go_meet
                      case rel => exact ⟨_, ((((rd_T32 l1 x5_2).f0) == ((rd_T32 l1 x5_2).f1))), qq14, H', ⟨qq50 HJ2.out HK2.out⟩, ⟨qq20⟩, ⟨qq4 HB.out GE160.out⟩⟩
                    · replace c15 := Bool.eq_false_iff.mpr c15
                      subst c15
                      have H1 : (spec_NetValid.j2 k2 a0 l1 x5_2 true ((rd_T32 l1 x5_2).f0) ((rd_T32 l1 x5_2).f1) ((rd_T32 l1 x5_2).f2) ((rd_T32 l1 x5_2).f3)) = some r := by rw [if_neg (show ¬ (false = true) by decide)] at H; exact H
                      clear H
                      have H := H1
                      clear H1
                      have H' := Aside0.mk H
                      clear H
                      have hcz17_0 : w10.cell? ⟨gb160, 0, none⟩ = some (.int .i64 0) := (blk_cell BK160.out 0).trans rfl
                      have hcz17_1 : w10.cell? ⟨gb160, 1, none⟩ = some (.int .i64 0) := (blk_cell BK160.out 1).trans rfl
                      have hcz17_2 : w10.cell? ⟨gb160, 2, none⟩ = some (.int .i64 0) := (blk_cell BK160.out 2).trans rfl
                      have hcz17_3 : w10.cell? ⟨gb160, 3, none⟩ = some (.int .i64 0) := (blk_cell BK160.out 3).trans rfl
                      have hfz17_0 := blk_frozen BK160.out 0
                      have hfz17_1 := blk_frozen BK160.out 1
                      have hfz17_2 := blk_frozen BK160.out 2
                      have hfz17_3 := blk_frozen BK160.out 3
                      go_wp2_with (first | ((with_reducible refine gate_callee (f := 40) rfl ?_); refine goesL_ (some 29) rfl rfl Try.func40 (by kernel_rfl) rfl #[.int .i64 ((rd_T32 l1 x5_2).f0), .int .i64 0, .int .i64 (wrap64 (a0 - 1))] rfl qq5 ?_; (with_reducible refine (spec_l6In.calls ((rd_T32 l1 x5_2).f0) 0 (wrap64 (a0 - 1)) true _ A12.out).mono ?_); rintro e w' ⟨rfl, ⟨nd, rfl⟩⟩; refine ⟨_, rfl, ?_⟩) | (go_at_call 40; (with_reducible refine (spec_l6In.calls ((rd_T32 l1 x5_2).f1) 0 (wrap64 (a0 - 1)) false _ A14.out).mono ?_); rintro e w' ⟨rfl, ⟨nd, rfl⟩⟩))
                      go_meet
                      case rel => exact ⟨_, (true), qq14, H', ⟨qq50 HJ2.out HK2.out⟩, ⟨qq20⟩, ⟨qq4 HB.out GE160.out⟩⟩
                  · replace c13 := Bool.eq_false_iff.mpr c13
                    subst c13
                    have H1 : (spec_NetValid.j2 k2 a0 l1 x5_2 true ((rd_T32 l1 x5_2).f0) ((rd_T32 l1 x5_2).f1) ((rd_T32 l1 x5_2).f2) ((rd_T32 l1 x5_2).f3)) = some r := by rw [if_neg (show ¬ (false = true) by decide)] at H; exact H
                    clear H
                    have H := H1
                    clear H1
                    have H' := Aside0.mk H
                    clear H
                    have hcz18_0 : w10.cell? ⟨gb160, 0, none⟩ = some (.int .i64 0) := (blk_cell BK160.out 0).trans rfl
                    have hcz18_1 : w10.cell? ⟨gb160, 1, none⟩ = some (.int .i64 0) := (blk_cell BK160.out 1).trans rfl
                    have hcz18_2 : w10.cell? ⟨gb160, 2, none⟩ = some (.int .i64 0) := (blk_cell BK160.out 2).trans rfl
                    have hcz18_3 : w10.cell? ⟨gb160, 3, none⟩ = some (.int .i64 0) := (blk_cell BK160.out 3).trans rfl
                    have hfz18_0 := blk_frozen BK160.out 0
                    have hfz18_1 := blk_frozen BK160.out 1
                    have hfz18_2 := blk_frozen BK160.out 2
                    have hfz18_3 := blk_frozen BK160.out 3
                    go_wp2_with (first | ((with_reducible refine gate_callee (f := 40) rfl ?_); refine goesL_ (some 29) rfl rfl Try.func40 (by kernel_rfl) rfl #[.int .i64 ((rd_T32 l1 x5_2).f0), .int .i64 0, .int .i64 (wrap64 (a0 - 1))] rfl qq5 ?_; (with_reducible refine (spec_l6In.calls ((rd_T32 l1 x5_2).f0) 0 (wrap64 (a0 - 1)) false _ A12.out).mono ?_); rintro e w' ⟨rfl, ⟨nd, rfl⟩⟩; refine ⟨_, rfl, ?_⟩))
                    go_meet
                    case rel => exact ⟨_, (true), qq14, H', ⟨qq50 HJ2.out HK2.out⟩, ⟨qq20⟩, ⟨qq4 HB.out GE160.out⟩⟩
                case rest =>
                  clear HC9
                  try clear c1
                  try clear p1
                  try clear q1
                  try clear hx1
                  try clear p2
                  try clear c4
                  try clear c5
                  try clear c6
                  try clear p6
                  try clear c7
                  try clear c7b0
                  try clear c8
                  try clear c8b0
                  try clear c13
                  try clear c15
                  try clear p15
                  try clear q15
                  try clear hx15
                  try clear hcz11_0
                  try clear hcz11_1
                  try clear hcz11_2
                  try clear hcz11_3
                  try clear hcz16_0
                  try clear hcz16_1
                  try clear hcz16_2
                  try clear hcz16_3
                  try clear hcz17_0
                  try clear hcz17_1
                  try clear hcz17_2
                  try clear hcz17_3
                  try clear hcz18_0
                  try clear hcz18_1
                  try clear hcz18_2
                  try clear hcz18_3
                  try clear hfz11_0
                  try clear hfz11_1
                  try clear hfz11_2
                  try clear hfz11_3
                  try clear hfz16_0
                  try clear hfz16_1
                  try clear hfz16_2
                  try clear hfz16_3
                  try clear hfz17_0
                  try clear hfz17_1
                  try clear hfz17_2
                  try clear hfz17_3
                  try clear hfz18_0
                  try clear hfz18_1
                  try clear hfz18_2
                  try clear hfz18_3
                  try clear hx159_0
                  try clear hx159_1
                  try clear hx159_2
                  try clear hx159_3
                  try clear p159
                  try clear p2
                  try clear q159
                  obtain ⟨kq, x45_8, rfl, HA, HJ8, BK160, HB⟩ := hcut
                  cases kq with
                  | zero => exact absurd HA.out (by simp [spec_NetValid.j2])
                  | succ kj8 =>
                    have H := HA.out
                    clear HA
                    simp only [spec_NetValid.j2] at H
                    by_cases c19 : x45_8 = true
                    · subst c19
                      have H1 : (some false) = some r := by rw [if_pos rfl] at H; exact H
                      clear H
                      have H := H1
                      clear H1
                      obtain rfl := Option.some.inj H
                      go_wp2
                      go_ret
                      exact ⟨qq11, qq4 HB.out GE160.out⟩
                    · replace c19 := Bool.eq_false_iff.mpr c19
                      subst c19
                      have H1 : ((spec_l6In.f ((rd_T32 l1 x5_2).f2) (-100000) 100000).bind fun t163 => (if t163 = true then ((spec_l6In.f ((rd_T32 l1 x5_2).f3) 1 9).bind fun t164 => (if t164 = true then (spec_NetValid.l0 kj8 a0 l1 (wrap64 (x5_2 + 1))) else (some false))) else (some false))) = some r := by rw [if_neg (show ¬ (false = true) by decide)] at H; exact H
                      clear H
                      have H := H1
                      clear H1
                      replace H := Option.bind_eq_some_iff.mp H
                      obtain ⟨t163, A200, H⟩ := H
                      replace H : (if t163 = true then ((spec_l6In.f ((rd_T32 l1 x5_2).f3) 1 9).bind fun t164 => (if t164 = true then (spec_NetValid.l0 kj8 a0 l1 (wrap64 (x5_2 + 1))) else (some false))) else (some false)) = some r := H
                      have A20 := Aside0.mk A200
                      clear A200
                      by_cases c21 : t163 = true
                      · subst c21
                        have H1 : ((spec_l6In.f ((rd_T32 l1 x5_2).f3) 1 9).bind fun t164 => (if t164 = true then (spec_NetValid.l0 kj8 a0 l1 (wrap64 (x5_2 + 1))) else (some false))) = some r := by rw [if_pos rfl] at H; exact H
                        clear H
                        have H := H1
                        clear H1
                        replace H := Option.bind_eq_some_iff.mp H
                        obtain ⟨t164, A220, H⟩ := H
                        replace H : (if t164 = true then (spec_NetValid.l0 kj8 a0 l1 (wrap64 (x5_2 + 1))) else (some false)) = some r := H
                        have A22 := Aside0.mk A220
                        clear A220
                        by_cases c23 : t164 = true
                        · subst c23
                          have H1 : (spec_NetValid.l0 kj8 a0 l1 (wrap64 (x5_2 + 1))) = some r := by rw [if_pos rfl] at H; exact H
                          clear H
                          have H := H1
                          clear H1
                          have H' := Aside0.mk H
                          clear H
                          have hcz24_0 : wc.cell? ⟨gb160, 0, none⟩ = some (.int .i64 ((rd_T32 l1 x5_2).f0)) := (blk_cell BK160.out 0).trans rfl
                          have hcz24_1 : wc.cell? ⟨gb160, 1, none⟩ = some (.int .i64 ((rd_T32 l1 x5_2).f1)) := (blk_cell BK160.out 1).trans rfl
                          have hcz24_2 : wc.cell? ⟨gb160, 2, none⟩ = some (.int .i64 ((rd_T32 l1 x5_2).f2)) := (blk_cell BK160.out 2).trans rfl
                          have hcz24_3 : wc.cell? ⟨gb160, 3, none⟩ = some (.int .i64 ((rd_T32 l1 x5_2).f3)) := (blk_cell BK160.out 3).trans rfl
                          have hfz24_0 := blk_frozen BK160.out 0
                          have hfz24_1 := blk_frozen BK160.out 1
                          have hfz24_2 := blk_frozen BK160.out 2
                          have hfz24_3 := blk_frozen BK160.out 3
                          go_wp2_with (first | ((with_reducible refine gate_callee (f := 40) rfl ?_); refine goesL_ (some 48) rfl rfl Try.func40 (by kernel_rfl) rfl #[.int .i64 ((rd_T32 l1 x5_2).f2), .int .i64 (-100000), .int .i64 100000] rfl qq5 ?_; (with_reducible refine (spec_l6In.calls ((rd_T32 l1 x5_2).f2) (-100000) 100000 true _ A20.out).mono ?_); rintro e w' ⟨rfl, ⟨nd, rfl⟩⟩; refine ⟨_, rfl, ?_⟩) | (go_at_call 40; (with_reducible refine (spec_l6In.calls ((rd_T32 l1 x5_2).f3) 1 9 true _ A22.out).mono ?_); rintro e w' ⟨rfl, ⟨nd, rfl⟩⟩))
                          go_roundg kj8
                          case measure => have := HJ2.out; have := HK2.out; have := HJ8.out; omega
                          case rel => exact ⟨(wrap64 (x5_2 + 1)), qq14, H', ⟨qq57 HJ2.out HK2.out HJ8.out⟩, ⟨qq4 HB.out GE160.out⟩⟩
                        · replace c23 := Bool.eq_false_iff.mpr c23
                          subst c23
                          have H1 : (some false) = some r := by rw [if_neg (show ¬ (false = true) by decide)] at H; exact H
                          clear H
                          have H := H1
                          clear H1
                          obtain rfl := Option.some.inj H
                          have hcz25_0 : wc.cell? ⟨gb160, 0, none⟩ = some (.int .i64 ((rd_T32 l1 x5_2).f0)) := (blk_cell BK160.out 0).trans rfl
                          have hcz25_1 : wc.cell? ⟨gb160, 1, none⟩ = some (.int .i64 ((rd_T32 l1 x5_2).f1)) := (blk_cell BK160.out 1).trans rfl
                          have hcz25_2 : wc.cell? ⟨gb160, 2, none⟩ = some (.int .i64 ((rd_T32 l1 x5_2).f2)) := (blk_cell BK160.out 2).trans rfl
                          have hcz25_3 : wc.cell? ⟨gb160, 3, none⟩ = some (.int .i64 ((rd_T32 l1 x5_2).f3)) := (blk_cell BK160.out 3).trans rfl
                          have hfz25_0 := blk_frozen BK160.out 0
                          have hfz25_1 := blk_frozen BK160.out 1
                          have hfz25_2 := blk_frozen BK160.out 2
                          have hfz25_3 := blk_frozen BK160.out 3
                          go_wp2_with (first | ((with_reducible refine gate_callee (f := 40) rfl ?_); refine goesL_ (some 48) rfl rfl Try.func40 (by kernel_rfl) rfl #[.int .i64 ((rd_T32 l1 x5_2).f2), .int .i64 (-100000), .int .i64 100000] rfl qq5 ?_; (with_reducible refine (spec_l6In.calls ((rd_T32 l1 x5_2).f2) (-100000) 100000 true _ A20.out).mono ?_); rintro e w' ⟨rfl, ⟨nd, rfl⟩⟩; refine ⟨_, rfl, ?_⟩) | (go_at_call 40; (with_reducible refine (spec_l6In.calls ((rd_T32 l1 x5_2).f3) 1 9 false _ A22.out).mono ?_); rintro e w' ⟨rfl, ⟨nd, rfl⟩⟩))
                          go_ret
                          exact ⟨qq11, qq4 HB.out GE160.out⟩
                      · replace c21 := Bool.eq_false_iff.mpr c21
                        subst c21
                        have H1 : (some false) = some r := by rw [if_neg (show ¬ (false = true) by decide)] at H; exact H
                        clear H
                        have H := H1
                        clear H1
                        obtain rfl := Option.some.inj H
                        have hcz26_0 : wc.cell? ⟨gb160, 0, none⟩ = some (.int .i64 ((rd_T32 l1 x5_2).f0)) := (blk_cell BK160.out 0).trans rfl
                        have hcz26_1 : wc.cell? ⟨gb160, 1, none⟩ = some (.int .i64 ((rd_T32 l1 x5_2).f1)) := (blk_cell BK160.out 1).trans rfl
                        have hcz26_2 : wc.cell? ⟨gb160, 2, none⟩ = some (.int .i64 ((rd_T32 l1 x5_2).f2)) := (blk_cell BK160.out 2).trans rfl
                        have hcz26_3 : wc.cell? ⟨gb160, 3, none⟩ = some (.int .i64 ((rd_T32 l1 x5_2).f3)) := (blk_cell BK160.out 3).trans rfl
                        have hfz26_0 := blk_frozen BK160.out 0
                        have hfz26_1 := blk_frozen BK160.out 1
                        have hfz26_2 := blk_frozen BK160.out 2
                        have hfz26_3 := blk_frozen BK160.out 3
                        go_wp2_with (first | ((with_reducible refine gate_callee (f := 40) rfl ?_); refine goesL_ (some 48) rfl rfl Try.func40 (by kernel_rfl) rfl #[.int .i64 ((rd_T32 l1 x5_2).f2), .int .i64 (-100000), .int .i64 100000] rfl qq5 ?_; (with_reducible refine (spec_l6In.calls ((rd_T32 l1 x5_2).f2) (-100000) 100000 false _ A20.out).mono ?_); rintro e w' ⟨rfl, ⟨nd, rfl⟩⟩; refine ⟨_, rfl, ?_⟩))
                        go_ret
                        exact ⟨qq11, qq4 HB.out GE160.out⟩
              · rw [if_neg c8] at H
                exact absurd H (by simp)
            · rw [if_neg c7] at H
              have c7b0 : decide (x5_2 < (l1.length : Int)) = false := decide_eq_false c7
              clear c7
              obtain rfl := Option.some.inj H
              go_wp2
              go_ret
              exact ⟨qq11, qq1⟩

end Go.Proofs.Ytmcfhmflncghiaa.Q
