/- Part 2 of what the proof of this law rests on: the functions of the translation as plain Lean functions with their walks, and the plain laws behind. -/
import Derived.ArgAppend
import Derived.Below
import Derived.BigQuiet
import Derived.BigRegion
import Derived.Carry
import Derived.Deep.AppendLies
import Derived.Deep.CutBlock
import Derived.Deep.DeepCutAuto
import Derived.Deep.Draws
import Derived.Deep.LoopGhost
import Derived.Deep.OwnRows
import Derived.Deep.QuietTactic
import Derived.Deep.RegionHeld3
import Derived.Deep.RegionHeldLaw
import Derived.Deep.RegionLaw
import Derived.KernelRfl
import Derived.Laws.BitsLemmas
import Derived.Laws.BytesArg
import Derived.Laws.CopyOwn
import Derived.Laws.IdiomCopy
import Derived.Laws.MakeOwn
import Derived.Laws.OwnMore
import Derived.Laws.Rows
import Derived.Laws.Slices
import Derived.Lib.AppendStr
import Derived.Lib.ConvBytes
import Derived.Maps.AppendAt
import Derived.Maps.GroupsBeside
import Derived.OrdersHeld
import Derived.OwnWalk
import Derived.RowKit
import Derived.RowKit3
import Derived.StillTactics
import Derived.Tactics
import Derived.Test.YtmcfhmflncghiaaProg
import Derived.WalkKit
import Derived.WalkSpells
import Derived.WideLaws
import Derived.Test.YtmcfhmflncghiaaMFnLoopErrors1
namespace Go.Proofs.Ytmcfhmflncghiaa.Q
open Go.RowKit Go.Proofs.YtmcfhmflncghiaaW.PrintWords Go.Proofs.YtmcfhmflncghiaaW.PrintLast Go.Proofs.YtmcfhmflncghiaaW.PrintMore
/-! proofs that stand many times below, each found by its script where it is named -/
theorem pA_ {p : Prop} (h : p := by (intro w'; go_simp; with_reducible rfl)) : p := h
theorem pB_ {p : Prop} (h : p := by (simp only [Act.put, List.setIfInBounds_toArray, List.set_cons_zero, List.set_cons_succ, i64_w, i32_w]; rfl)) : p := h
theorem bbl_ {w1 w w' : World} {g : Nat} {o : Obj} (h0 : w1.heap[g]? = some o) (hb : Below w.heap.size w w') (h : w1.heap[g]? = some o → w.heap[g]? = some o := by (intro q; (with_reducible repeat (first | refine blk_drewN ?_ _ | refine blk_drew ?_ | refine blk_alloc ?_ _)); exact q)) : w'.heap[g]? = some o := blk_below (h h0) hb
theorem blt_ {w1 w : World} {g : Nat} {o : Obj} (h0 : w1.heap[g]? = some o) (h : w1.heap[g]? = some o → w.heap[g]? = some o := by (intro q; (with_reducible repeat (first | refine blk_drewN ?_ _ | refine blk_drew ?_ | refine blk_alloc ?_ _)); exact q)) : g < w.heap.size := blk_lt (h h0)
theorem qq1 {p : Prop} (h : p := by repeat (first | (with_reducible first | exact HB.out | apply below_alloc | apply pw_below_drewN | apply below_drew1) | exact HB.out)) : p := h
theorem qq2 {p c'1 : Prop} (Y'1 : c'1) (h : c'1 → p := by intro Y'1; (with_reducible repeat (first | apply Kd.R_alloc | apply Kd.R_drewN | apply Kd.R_drew)); exact Y'1) : p := h Y'1
theorem qq3 {p : Prop} (h : p := by first | (with_reducible assumption) | assumption) : p := h
theorem qq4 {p c'1 c'2 : Prop} (Y'1 : c'1) (Y'2 : c'2) (h : c'1 → c'2 → p := by intro Y'1 Y'2; repeat (first | (with_reducible first | exact Y'1 | apply below_alloc | apply pw_below_drewN | apply below_drew1 | refine below_set ?_ Y'2) | exact Y'1)) : p := h Y'1 Y'2
theorem qq5 {p : Prop} (h : p := by (try simp only [List.map_toArray, List.map_cons, List.map_nil]); first | done | rfl | (simp only [List.length_drop, List.length_take]; rfl)) : p := h
theorem qq6 {p : Prop} (h : p := by repeat (first | (with_reducible first | exact HK.out | apply KeepBut.set_ | apply keep_drewN | apply keep_drew | apply keep_alloc) | exact HK.out)) : p := h
theorem qq7 {p : Prop} (h : p := by (with_reducible repeat (first | refine blk_drewN ?_ _ | refine blk_drew ?_ | refine blk_alloc ?_ _)); refine blk_put (cs := #[.int .i64 ((rd_T32 l1 x18_1).f0), .int .i64 ((rd_T32 l1 x18_1).f1), .int .i64 ((rd_T32 l1 x18_1).f2), .int .i64 0]) ?_ 3 _ rfl; (with_reducible repeat (first | refine blk_drewN ?_ _ | refine blk_drew ?_ | refine blk_alloc ?_ _)); refine blk_put (cs := #[.int .i64 ((rd_T32 l1 x18_1).f0), .int .i64 ((rd_T32 l1 x18_1).f1), .int .i64 0, .int .i64 0]) ?_ 2 _ rfl; (with_reducible repeat (first | refine blk_drewN ?_ _ | refine blk_drew ?_ | refine blk_alloc ?_ _)); refine blk_put (cs := #[.int .i64 ((rd_T32 l1 x18_1).f0), .int .i64 0, .int .i64 0, .int .i64 0]) ?_ 1 _ rfl; (with_reducible repeat (first | refine blk_drewN ?_ _ | refine blk_drew ?_ | refine blk_alloc ?_ _)); refine blk_put (cs := #[.int .i64 0, .int .i64 0, .int .i64 0, .int .i64 0]) ?_ 0 _ rfl; (with_reducible repeat (first | refine blk_drewN ?_ _ | refine blk_drew ?_ | refine blk_alloc ?_ _)); exact BK231.out) : p := h
theorem qq8 {p : Prop} (h : p := by repeat (first | (with_reducible first | exact HB.out | apply below_alloc | apply pw_below_drewN | apply below_drew1 | refine below_set ?_ (IsS61.ge HI0.out)) | exact HB.out)) : p := h
theorem qq9 {p : Prop} (h : p := by repeat (first | (with_reducible first | exact HI0.out | apply IsS61.alloc | apply IsS61.drewN | apply IsS61.drew | apply IsS61.set_1) | exact HI0.out)) : p := h
theorem qq10 {p c'1 c'2 : Prop} (Y'1 : c'1) (Y'2 : c'2) (h : c'1 → c'2 → p := by intro Y'1 Y'2; repeat (first | exact (Kd.C_below Y'1 Y'2) | (with_reducible refine Kd.C_alloc ?_ _) | (with_reducible refine Kd.C_drewN ?_ _) | (with_reducible refine Kd.C_drew ?_))) : p := h Y'1 Y'2
theorem qq11 {p : Prop} (h : p := by first | rfl | (simp [errW_none, errW_some] <;> rfl) | (simp [*, errW_none, errW_some] <;> rfl)) : p := h
theorem qq12 {p c'1 : Prop} (Y'1 : c'1) (h : c'1 → p := by intro Y'1; repeat (first | exact (Kd.R_reads' Y'1).2.2 | (with_reducible refine Kd.C_alloc ?_ _) | (with_reducible refine Kd.C_drewN ?_ _) | (with_reducible refine Kd.C_drew ?_))) : p := h Y'1
theorem qq13 {p : Prop} (h : p := by first | rfl | (simp; done) | (simp [*]; done)) : p := h
theorem qq14 {p : Prop} (h : p := by (with_reducible repeat (first | apply Kd.R_alloc | apply Kd.R_drewN | apply Kd.R_drew)); exact (Kd.R_mono (Kd.R_far (p := ⟨gb231, 3, none⟩) (Kd.R_far (p := ⟨gb231, 2, none⟩) (Kd.R_far (p := ⟨gb231, 1, none⟩) (Kd.R_far (p := ⟨gb231, 0, none⟩) (Kd.R_types HO_6.out BK231.out (by decide)) (fun _ hk => hk.2) (.int .i64 ((rd_T32 l1 x18_1).f0))) (fun _ hk => hk.2) (.int .i64 ((rd_T32 l1 x18_1).f1))) (fun _ hk => hk.2) (.int .i64 ((rd_T32 l1 x18_1).f2))) (fun _ hk => hk.2) (.int .i64 ((rd_T32 l1 x18_1).f3))) (fun _ h_ => h_.1))) : p := h
theorem qq15 {p c'1 : Prop} (Y'1 : c'1) (h : c'1 → p := by intro Y'1; repeat (first | exact Y'1 | (with_reducible refine Kd.C_alloc ?_ _) | (with_reducible refine Kd.C_drewN ?_ _) | (with_reducible refine Kd.C_drew ?_))) : p := h Y'1
theorem qq16 {p : Prop} (h : p := by first | (go_simp; done) | (go_simp; rfl)) : p := h
theorem qq17 {p c'1 : Prop} (Y'1 : c'1) (h : c'1 → p := by intro Y'1; (with_reducible repeat (first | apply Kd.R_alloc | apply Kd.R_drewN | apply Kd.R_drew)); exact Kd.R_mono Y'1 (fun _ hk => trivial)) : p := h Y'1
theorem qq18 {p : Prop} (h : p := by have := World.block_lt_of_cell? _ _ hx481_0; first | rwa [add_block] at this | exact this) : p := h
theorem qq19 {p : Prop} (h : p := by have := World.block_lt_of_cell? _ _ hx482_0; first | rwa [add_block] at this | exact this) : p := h
theorem qq20 {p : Prop} (h : p := by (with_reducible repeat (first | refine blk_drewN ?_ _ | refine blk_drew ?_ | refine blk_alloc ?_ _)); refine blk_put (cs := #[.int .i64 ((rd_T32 l1 x5_2).f0), .int .i64 ((rd_T32 l1 x5_2).f1), .int .i64 ((rd_T32 l1 x5_2).f2), .int .i64 0]) ?_ 3 _ rfl; (with_reducible repeat (first | refine blk_drewN ?_ _ | refine blk_drew ?_ | refine blk_alloc ?_ _)); refine blk_put (cs := #[.int .i64 ((rd_T32 l1 x5_2).f0), .int .i64 ((rd_T32 l1 x5_2).f1), .int .i64 0, .int .i64 0]) ?_ 2 _ rfl; (with_reducible repeat (first | refine blk_drewN ?_ _ | refine blk_drew ?_ | refine blk_alloc ?_ _)); refine blk_put (cs := #[.int .i64 ((rd_T32 l1 x5_2).f0), .int .i64 0, .int .i64 0, .int .i64 0]) ?_ 1 _ rfl; (with_reducible repeat (first | refine blk_drewN ?_ _ | refine blk_drew ?_ | refine blk_alloc ?_ _)); refine blk_put (cs := #[.int .i64 0, .int .i64 0, .int .i64 0, .int .i64 0]) ?_ 0 _ rfl; (with_reducible repeat (first | refine blk_drewN ?_ _ | refine blk_drew ?_ | refine blk_alloc ?_ _)); exact BK160.out) : p := h
theorem qq21 {p c'1 : Prop} (Y'1 : c'1) (h : c'1 → p := by intro Y'1; (with_reducible repeat (first | apply Kd.R_alloc | apply Kd.R_drewN | apply Kd.R_drew)); exact Kd.R_mono Y'1 (fun _ hk => hk.2)) : p := h Y'1
theorem qq22 {p c'1 c'2 : Prop} (Y'1 : c'1) (Y'2 : c'2) (h : c'1 → c'2 → p := by intro Y'1 Y'2; (try simp only [hl9_1]); (try simp only [hl9_2]); (with_reducible repeat (first | apply Kd.R_alloc | apply Kd.R_drewN | apply Kd.R_drew)); exact Kd.R_mono (Kd.R_far (p := ⟨gb464, 3, none⟩) (Kd.R_far (p := ⟨gb464, 2, none⟩) (Kd.R_far (p := ⟨gb464, 1, none⟩) (Kd.R_far (p := ⟨gb464, 0, none⟩) (Kd.R_types Y'1 Y'2 (by decide)) (fun _ hk => hk.2) (.int .i64 ((rd_T32 t460 x32_2).f0))) (fun _ hk => hk.2) (.int .i64 ((rd_T32 t460 x32_2).f1))) (fun _ hk => hk.2) (.int .i64 ((rd_T32 t460 x32_2).f2))) (fun _ hk => hk.2) (.int .i64 ((rd_T32 t460 x32_2).f3))) (fun _ hk => trivial)) : p := h Y'1 Y'2
theorem qq23 {p c'1 : Prop} (Y'1 : c'1) (h : c'1 → p := by intro Y'1; (with_reducible repeat (first | refine blk_drewN ?_ _ | refine blk_drew ?_ | refine blk_alloc ?_ _)); exact Y'1) : p := h Y'1
theorem qq24 {p : Prop} (h : p := by repeat (first | exact Drawn0.refl _ | apply Drawn0.step)) : p := h
theorem qq25 {p c'1 c'2 : Prop} (Y'1 : c'1) (Y'2 : c'2) (h : c'1 → c'2 → p := by intro Y'1 Y'2; repeat (first | (with_reducible first | exact Y'1 | apply IsS61.alloc | apply IsS61.drewN | apply IsS61.drew | apply IsS61.set_1 | refine IsS61.far ?_ Y'2 _) | exact Y'1)) : p := h Y'1 Y'2
theorem qq26 {p c'1 : Prop} (Y'1 : c'1) (h : c'1 → p := by intro Y'1; (try simp only [hl9_1]); (try simp only [hl9_2]); (with_reducible repeat (first | apply Kd.R_alloc | apply Kd.R_drewN | apply Kd.R_drew)); exact Y'1) : p := h Y'1
theorem qq27 {p c'1 c'2 : Prop} (Y'1 : c'1) (Y'2 : c'2) (h : c'1 → c'2 → p := by intro Y'1 Y'2; repeat (first | (with_reducible first | exact Y'1 | apply KeepBut.set_ | apply keep_drewN | apply keep_drew | apply keep_alloc | refine keep_far ?_ Y'2 _) | exact Y'1)) : p := h Y'1 Y'2
theorem qq28 {p : Prop} (h : p := by (try simp only [hl9_1]); (try simp only [hl9_2]); (with_reducible repeat (first | refine blk_drewN ?_ _ | refine blk_drew ?_ | refine blk_alloc ?_ _)); refine blk_put (cs := #[.int .i64 ((rd_T32 t460 x32_2).f0), .int .i64 ((rd_T32 t460 x32_2).f1), .int .i64 ((rd_T32 t460 x32_2).f2), .int .i64 0]) ?_ 3 _ rfl; (with_reducible repeat (first | refine blk_drewN ?_ _ | refine blk_drew ?_ | refine blk_alloc ?_ _)); refine blk_put (cs := #[.int .i64 ((rd_T32 t460 x32_2).f0), .int .i64 ((rd_T32 t460 x32_2).f1), .int .i64 0, .int .i64 0]) ?_ 2 _ rfl; (with_reducible repeat (first | refine blk_drewN ?_ _ | refine blk_drew ?_ | refine blk_alloc ?_ _)); refine blk_put (cs := #[.int .i64 ((rd_T32 t460 x32_2).f0), .int .i64 0, .int .i64 0, .int .i64 0]) ?_ 1 _ rfl; (with_reducible repeat (first | refine blk_drewN ?_ _ | refine blk_drew ?_ | refine blk_alloc ?_ _)); refine blk_put (cs := #[.int .i64 0, .int .i64 0, .int .i64 0, .int .i64 0]) ?_ 0 _ rfl; (with_reducible repeat (first | refine blk_drewN ?_ _ | refine blk_drew ?_ | refine blk_alloc ?_ _)); exact BK464.out) : p := h
theorem qq29 {p : Prop} (h : p := by first | (rw [add_block]; exact Kd.own_blk (IsS61.own_ne HI0.out HO_7.out (by decide))) | (show (Addr.add _ _).block ≠ _; rw [add_block]; exact Kd.own_blk (IsS61.own_ne HI0.out HO_7.out (by decide))) | exact Kd.own_blk (IsS61.own_ne HI0.out HO_7.out (by decide)) | (intro e_; exact ((IsS61.own_ne HI0.out HO_7.out (by decide))) (by rw [← e_]; rfl))) : p := h
theorem qq30 {p : Prop} (h : p := by (with_reducible repeat (first | refine blk_drewN ?_ _ | refine blk_drew ?_ | refine blk_alloc ?_ _)); refine blk_put (cs := #[.int .i64 ((rd_T32 l0 (rd l1 x12_1)).f0), .int .i64 ((rd_T32 l0 (rd l1 x12_1)).f1), .int .i64 ((rd_T32 l0 (rd l1 x12_1)).f2), .int .i64 0]) ?_ 3 _ rfl; (with_reducible repeat (first | refine blk_drewN ?_ _ | refine blk_drew ?_ | refine blk_alloc ?_ _)); refine blk_put (cs := #[.int .i64 ((rd_T32 l0 (rd l1 x12_1)).f0), .int .i64 ((rd_T32 l0 (rd l1 x12_1)).f1), .int .i64 0, .int .i64 0]) ?_ 2 _ rfl; (with_reducible repeat (first | refine blk_drewN ?_ _ | refine blk_drew ?_ | refine blk_alloc ?_ _)); refine blk_put (cs := #[.int .i64 ((rd_T32 l0 (rd l1 x12_1)).f0), .int .i64 0, .int .i64 0, .int .i64 0]) ?_ 1 _ rfl; (with_reducible repeat (first | refine blk_drewN ?_ _ | refine blk_drew ?_ | refine blk_alloc ?_ _)); refine blk_put (cs := #[.int .i64 0, .int .i64 0, .int .i64 0, .int .i64 0]) ?_ 0 _ rfl; (with_reducible repeat (first | refine blk_drewN ?_ _ | refine blk_drew ?_ | refine blk_alloc ?_ _)); exact BK381.out) : p := h
theorem qq31 {p : Prop} (h : p := by (with_reducible repeat (first | refine blk_drewN ?_ _ | refine blk_drew ?_ | refine blk_alloc ?_ _)); refine blk_put (cs := #[.int .i64 ((rd_T32 l1 x20_2).f0), .int .i64 ((rd_T32 l1 x20_2).f1), .int .i64 ((rd_T32 l1 x20_2).f2), .int .i64 0]) ?_ 3 _ rfl; (with_reducible repeat (first | refine blk_drewN ?_ _ | refine blk_drew ?_ | refine blk_alloc ?_ _)); refine blk_put (cs := #[.int .i64 ((rd_T32 l1 x20_2).f0), .int .i64 ((rd_T32 l1 x20_2).f1), .int .i64 0, .int .i64 0]) ?_ 2 _ rfl; (with_reducible repeat (first | refine blk_drewN ?_ _ | refine blk_drew ?_ | refine blk_alloc ?_ _)); refine blk_put (cs := #[.int .i64 ((rd_T32 l1 x20_2).f0), .int .i64 0, .int .i64 0, .int .i64 0]) ?_ 1 _ rfl; (with_reducible repeat (first | refine blk_drewN ?_ _ | refine blk_drew ?_ | refine blk_alloc ?_ _)); refine blk_put (cs := #[.int .i64 0, .int .i64 0, .int .i64 0, .int .i64 0]) ?_ 0 _ rfl; (with_reducible repeat (first | refine blk_drewN ?_ _ | refine blk_drew ?_ | refine blk_alloc ?_ _)); exact BK206.out) : p := h
theorem qq32 {p c'1 : Prop} (Y'1 : c'1) (h : c'1 → p := by intro Y'1; (with_reducible repeat (first | apply Kd.R_alloc | apply Kd.R_drewN | apply Kd.R_drew)); exact Kd.R_mono Y'1 (fun _ hk => ⟨hk.1.2, hk.2⟩)) : p := h Y'1
theorem qq33 {p : Prop} (h : p := by rw [hg]; exact (below_size qq1)) : p := h
theorem qq34 {p c'1 c'2 c'3 : Prop} (Y'1 : c'1) (Y'2 : c'2) (Y'3 : c'3) (h : c'1 → c'2 → c'3 → p := by intro Y'1 Y'2 Y'3; repeat (first | (with_reducible first | exact Y'1 | apply below_alloc | apply pw_below_drewN | apply below_drew1 | refine below_set ?_ Y'2 | refine below_set ?_ Y'3) | exact Y'1)) : p := h Y'1 Y'2 Y'3
theorem qq35 {p : Prop} (h : p := by exact qq10 HR1.out HB.out) : p := h
theorem qq36 {p : Prop} (h : p := by (try simp only [hl9_1]); (try simp only [hl9_2]); (with_reducible repeat (first | apply Kd.R_alloc | apply Kd.R_drewN | apply Kd.R_drew)); exact Kd.R_mono (Kd.R_far (p := ⟨gb464, 3, none⟩) (Kd.R_far (p := ⟨gb464, 2, none⟩) (Kd.R_far (p := ⟨gb464, 1, none⟩) (Kd.R_far (p := ⟨gb464, 0, none⟩) (Kd.R_mono HO_30.out (fun k_ hk => (⟨hk, hk.2⟩ : _ ∧ k_ ≠ gb464))) (fun _ hk => hk.2) (.int .i64 ((rd_T32 t460 x32_2).f0))) (fun _ hk => hk.2) (.int .i64 ((rd_T32 t460 x32_2).f1))) (fun _ hk => hk.2) (.int .i64 ((rd_T32 t460 x32_2).f2))) (fun _ hk => hk.2) (.int .i64 ((rd_T32 t460 x32_2).f3))) (fun _ hk => hk.1.2)) : p := h
theorem qq37 {p : Prop} (h : p := by first | omega | exact Nat.le_refl _) : p := h
theorem qq38 {p : Prop} (h : p := by first | (rw [add_block]; exact hn481_0) | (show (Addr.add _ _).block ≠ _; rw [add_block]; exact hn481_0) | exact hn481_0) : p := h
theorem qq39 {p : Prop} (h : p := by first | (rw [add_block]; exact hn481_1) | (show (Addr.add _ _).block ≠ _; rw [add_block]; exact hn481_1) | exact hn481_1) : p := h
theorem qq40 {p : Prop} (h : p := by first | (rw [add_block]; exact hn481_2) | (show (Addr.add _ _).block ≠ _; rw [add_block]; exact hn481_2) | exact hn481_2) : p := h
theorem qq41 {p : Prop} (h : p := by first | (rw [add_block]; exact hn481_3) | (show (Addr.add _ _).block ≠ _; rw [add_block]; exact hn481_3) | exact hn481_3) : p := h
theorem qq42 {p : Prop} (h : p := by first | (rw [add_block]; exact hn482_0) | (show (Addr.add _ _).block ≠ _; rw [add_block]; exact hn482_0) | exact hn482_0) : p := h
theorem qq43 {p : Prop} (h : p := by first | (rw [add_block]; exact hn482_1) | (show (Addr.add _ _).block ≠ _; rw [add_block]; exact hn482_1) | exact hn482_1) : p := h
theorem qq44 {p : Prop} (h : p := by first | (rw [add_block]; exact hn482_2) | (show (Addr.add _ _).block ≠ _; rw [add_block]; exact hn482_2) | exact hn482_2) : p := h
theorem qq45 {p : Prop} (h : p := by first | (rw [add_block]; exact hn482_3) | (show (Addr.add _ _).block ≠ _; rw [add_block]; exact hn482_3) | exact hn482_3) : p := h
theorem qq46 {p : Prop} (h : p := by (try simp only [hl9_1]); (try simp only [hl9_2]); (with_reducible repeat (first | apply Kd.R_alloc | apply Kd.R_drewN | apply Kd.R_drew)); exact Kd.R_mono HO_30.out (fun _ hk => trivial)) : p := h
theorem qq47 {p : Prop} (h : p := by first | rfl | (simp [errW_none, errW_some] <;> rfl) | (simp only [← hji12]; first | rfl | (simp [errW_none, errW_some] <;> rfl)) | (simp [*, errW_none, errW_some] <;> rfl)) : p := h
theorem qq48 {p : Prop} (h : p := by rw [hg]; exact (below_size (by repeat (first | (with_reducible first | exact HBW.out | apply below_alloc | apply pw_below_drewN | apply below_drew1) | exact HBW.out)))) : p := h
theorem qq49 {p c'1 c'2 c'3 : Prop} (Y'1 : c'1) (Y'2 : c'2) (Y'3 : c'3) (h : c'1 → c'2 → c'3 → p := by intro Y'1 Y'2 Y'3; repeat (first | (with_reducible first | exact Y'1 | apply below_alloc | apply pw_below_drewN | apply below_drew1 | refine below_set ?_ (IsS61.ge Y'2) | refine below_set ?_ Y'3) | exact Y'1)) : p := h Y'1 Y'2 Y'3
theorem qq50 {p c'1 : Prop} (Y'1 : c'1) (h : c'1 → p := by intro Y'1; exact (Kd.R_reads' Y'1).2.1) : p := h Y'1
theorem qq51 {p : Prop} (h : p := by repeat (first | (with_reducible first | exact HB.out | apply below_alloc | apply pw_below_drewN | apply below_drew1 | refine below_set ?_ (IsS61.ge HI527.out)) | exact HB.out)) : p := h
theorem qq52 {p c'1 c'2 : Prop} (Y'1 : c'1) (Y'2 : c'2) (h : c'1 → c'2 → p := by intro Y'1 Y'2; have := Y'1; have := Y'2; first | omega | exact Nat.le_refl _) : p := h Y'1 Y'2
theorem qq53 {p : Prop} (h : p := by (with_reducible repeat (first | refine blk_drewN ?_ _ | refine blk_drew ?_ | refine blk_alloc ?_ _)); refine blk_far ?_ (by have h_ := Kd.R_ne HO_8.out BK464.out (by decide); intro e_; exact h_ (by rw [e_]; rfl)) _; (with_reducible repeat (first | refine blk_drewN ?_ _ | refine blk_drew ?_ | refine blk_alloc ?_ _)); exact BK464.out) : p := h
theorem qq54 {p c'1 c'2 c'3 : Prop} (Y'1 : c'1) (Y'2 : c'2) (Y'3 : c'3) (h : c'1 → c'2 → c'3 → p := by intro Y'1 Y'2 Y'3; have := Y'1; have := Y'2; have := Y'3; omega) : p := h Y'1 Y'2 Y'3
theorem qq55 {p c'1 c'2 c'3 : Prop} (Y'1 : c'1) (Y'2 : c'2) (Y'3 : c'3) (h : c'1 → c'2 → c'3 → p := by intro Y'1 Y'2 Y'3; rw [hw]; exact below_set (below_set (below_set (below_set (Y'1) (Nat.le_trans Y'2 Y'3)) (Nat.le_trans Y'2 Y'3)) (Nat.le_trans Y'2 Y'3)) (Nat.le_trans Y'2 Y'3)) : p := h Y'1 Y'2 Y'3
theorem qq56 {p : Prop} (h : p := by have := World.block_lt_of_cell? _ _ hx382_0; first | rwa [add_block] at this | exact this) : p := h
theorem qq57 {p c'1 : Prop} (Y'1 : c'1) (h : c'1 → p := by intro Y'1; exact (fun k_ hk => Kd.fresh' (Kd.R_lt (qq2 Y'1)) k_ hk)) : p := h Y'1
theorem qq58 {p : Prop} (h : p := by rw [hg]; exact (below_size (qq4 HB.out GE284.out))) : p := h
theorem qq59 {p : Prop} (h : p := by refine (Kd.R_reads' (e := 3) (base := w.heap.size) (ok := fun k_ => True) (n := x6_1.length) (c := co20) ?_).2.2; exact qq14) : p := h
theorem qq60 {p : Prop} (h : p := by refine (Kd.R_reads' (e := 3) (base := w.heap.size) (ok := fun k_ => True) (n := x6_1.length) (c := co29) ?_).2.2; exact qq14) : p := h
theorem qq61 {p : Prop} (h : p := by exact (Reps.one (show Kd.M (Kd.int .i64) _ _ _ (wrap64 (a2 + 1)) [.int .i64 (wrap64 (a2 + 1))] from rfl) (Reps.none _ _))) : p := h
theorem qq62 {p : Prop} (h : p := by rw [hw]; exact below_set (HB.out) GB16.out) : p := h
theorem qq63 {p : Prop} (h : p := by rw [hg]; exact (keep_size (w := w) (g := g) (row := none) qq6)) : p := h
theorem qq64 {p c'1 : Prop} (Y'1 : c'1) (h : c'1 → p := by intro Y'1; (try simp only [hl9_1]); (with_reducible repeat (first | apply Kd.R_alloc | apply Kd.R_drewN | apply Kd.R_drew)); exact Y'1) : p := h Y'1
theorem qq65 {p c'1 : Prop} (Y'1 : c'1) (h : c'1 → p := by intro Y'1; (try simp only [hl7_2]); (with_reducible repeat (first | apply Kd.R_alloc | apply Kd.R_drewN | apply Kd.R_drew)); exact Y'1) : p := h Y'1
theorem qq66 {p : Prop} (h : p := by exact Kd.C_below HR1.out (qq4 HB.out GE231.out)) : p := h
theorem qq67 {p : Prop} (h : p := by (try simp only [List.map_toArray, List.map_cons, List.map_nil]); first | done | (simp only [hji12]; rfl) | rfl | (simp only [List.length_drop, List.length_take]; rfl)) : p := h
theorem qq68 {p : Prop} (h : p := by rw [List.length_append, List.length_singleton]; omega) : p := h
theorem qq69 {p : Prop} (h : p := by first | rw [e7.out] | rfl) : p := h
theorem qq70 {p : Prop} (h : p := by first | (rw [add_block]; exact hn465_0) | (show (Addr.add _ _).block ≠ _; rw [add_block]; exact hn465_0) | exact hn465_0) : p := h
theorem qq71 {p : Prop} (h : p := by first | (rw [add_block]; exact hn465_1) | (show (Addr.add _ _).block ≠ _; rw [add_block]; exact hn465_1) | exact hn465_1) : p := h
theorem qq72 {p : Prop} (h : p := by first | (rw [add_block]; exact hn465_2) | (show (Addr.add _ _).block ≠ _; rw [add_block]; exact hn465_2) | exact hn465_2) : p := h
theorem qq73 {p : Prop} (h : p := by first | (rw [add_block]; exact hn465_3) | (show (Addr.add _ _).block ≠ _; rw [add_block]; exact hn465_3) | exact hn465_3) : p := h
theorem qq74 {p : Prop} (h : p := by simp only [putAll, Act.put, List.setIfInBounds_toArray, List.set_cons_zero, List.set_cons_succ]) : p := h
theorem qq75 {p : Prop} (h : p := by exact (fun _ _ => trivial)) : p := h
theorem qq76 {p c'1 c'2 : Prop} (Y'1 : c'1) (Y'2 : c'2) (h : c'1 → c'2 → p := by intro Y'1 Y'2; have := Y'1; have := Y'2; omega) : p := h Y'1 Y'2
theorem qq77 {p c'1 c'2 c'3 c'4 : Prop} (Y'1 : c'1) (Y'2 : c'2) (Y'3 : c'3) (Y'4 : c'4) (h : c'1 → c'2 → c'3 → c'4 → p := by intro Y'1 Y'2 Y'3 Y'4; repeat (first | (with_reducible first | exact Y'1 | apply below_alloc | apply pw_below_drewN | apply below_drew1 | refine below_set ?_ (Nat.le_trans Y'2 Y'3) | refine below_set ?_ (IsS61.ge Y'4)) | exact Y'1)) : p := h Y'1 Y'2 Y'3 Y'4
theorem qq78 {p : Prop} (h : p := by rw [hg]; exact Nat.ne_of_lt (blt_ BK284.out)) : p := h
theorem qq79 {p : Prop} (h : p := by rw [hg]; exact Nat.ne_of_gt (blt_ BK284.out)) : p := h
theorem qq80 {p : Prop} (h : p := by have := HK1.out; have := HK2.out; have := HK3.out; first | omega | exact Nat.le_refl _) : p := h
theorem qq81 {p : Prop} (h : p := by rw [hw]; exact below_set (HB.out) GB10.out) : p := h
theorem qq82 {p : Prop} (h : p := by exact (keep_size (w := w) (g := g) (row := none) qq6)) : p := h
end Go.Proofs.Ytmcfhmflncghiaa.Q
namespace Go.Proofs.Ytmcfhmflncghiaa.Q
open Go.RowKit Go.Proofs.YtmcfhmflncghiaaW.PrintWords Go.Proofs.YtmcfhmflncghiaaW.PrintLast Go.Proofs.YtmcfhmflncghiaaW.PrintMore
attribute [local go_sem] max2_int min2_int max_two min_two max_three min_three max_four min_four
set_option linter.unusedVariables false
set_option linter.unusedSimpArgs false

def errW : Option Int → Value
  | none => .nilIface
  | some c => .iface 0 (.int .i64 c)
theorem errW_none : errW none = .nilIface := rfl
theorem errW_some (c : Int) : errW (some c) = .iface 0 (.int .i64 c) := rfl

theorem info3 : (Try.prog.info? 3).map (fun i => (i.zero, i.size, i.bytes)) = some (some (.int .i64 0), 1, 8) := by kernel_rfl
theorem info4 : (Try.prog.info? 4).map (fun i => (i.zero, i.size, i.bytes)) = some (some (.bool false), 1, 1) := by kernel_rfl
theorem info5 : (Try.prog.info? 5).map (fun i => (i.zero, i.size, i.bytes)) = some (some (.int .u8 0), 1, 1) := by kernel_rfl
theorem info32 : (Try.prog.info? 32).map (fun i => (i.zero, i.size, i.bytes)) = some (some (.agg #[(.int .i64 0), (.int .i64 0), (.int .i64 0), (.int .i64 0)]), 4, 32) := by kernel_rfl
-- the values' own types
/-! #### struct type 32 -/
structure S32 where
  f0 : Int
  f1 : Int
  f2 : Int
  f3 : Int
def z32 : S32 := ⟨(0 : Int), (0 : Int), (0 : Int), (0 : Int)⟩
def k32 : Kd S32 := Kd.iso (Kd.pair (Kd.int .i64) (Kd.pair (Kd.int .i64) (Kd.pair (Kd.int .i64) (Kd.int .i64)))) (fun x : S32 => (x.f0, x.f1, x.f2, x.f3))
theorem k32_open {w : World} {x : S32} {cs : List Value} (h : k32.K w x cs) : cs = [.int .i64 x.f0, .int .i64 x.f1, .int .i64 x.f2, .int .i64 x.f3] := by
  obtain ⟨_, _, rfl, rfl, ⟨_, _, rfl, rfl, ⟨_, _, rfl, rfl, rfl⟩⟩⟩ := h
  exact rfl
theorem k32_openM {w : World} {base : Nat} {ok : Nat → Prop} {x : S32} {cs : List Value} (h : k32.M w base ok x cs) : cs = [.int .i64 x.f0, .int .i64 x.f1, .int .i64 x.f2, .int .i64 x.f3] := by
  obtain ⟨_, _, rfl, rfl, ⟨_, _, rfl, rfl, ⟨_, _, rfl, rfl, rfl⟩⟩⟩ := h
  exact rfl
theorem k32_mkM (w : World) (base : Nat) (ok : Nat → Prop) (x : S32)  : k32.M w base ok x [.int .i64 x.f0, .int .i64 x.f1, .int .i64 x.f2, .int .i64 x.f3] := ⟨[.int .i64 x.f0], [.int .i64 x.f1, .int .i64 x.f2, .int .i64 x.f3], rfl, rfl, ⟨[.int .i64 x.f1], [.int .i64 x.f2, .int .i64 x.f3], rfl, rfl, ⟨[.int .i64 x.f2], [.int .i64 x.f3], rfl, rfl, rfl⟩⟩⟩
def rd_T32 (xs : List S32) (i : Int) : S32 := xs.getD i.toNat z32
theorem at_T32 {w : World} {A : Option Addr} {n : Nat} {xs : List S32} (h : Kd.C k32 w A n xs) (i : Int) (h0 : 0 ≤ i) (h1 : i < n) : ∃ ad , A = some ad ∧ w.cell? (ad.add (i.toNat * 4)) = some (.int .i64 (rd_T32 xs i).f0) ∧ w.cell? ⟨(ad.add (i.toNat * 4)).block, (ad.add (i.toNat * 4)).off + 1, none⟩ = some (.int .i64 (rd_T32 xs i).f1) ∧ w.cell? ⟨(ad.add (i.toNat * 4)).block, (ad.add (i.toNat * 4)).off + 2, none⟩ = some (.int .i64 (rd_T32 xs i).f2) ∧ w.cell? ⟨(ad.add (i.toNat * 4)).block, (ad.add (i.toNat * 4)).off + 3, none⟩ = some (.int .i64 (rd_T32 xs i).f3) := by
  obtain ⟨ad, c, e, _, hK, hc0⟩ := Kd.C_get h z32 i h0 h1
  have hc : ∀ j u, c[j]? = some u → w.cell? (ad.add (i.toNat * 4 + j)) = some u := hc0
  obtain rfl := k32_open hK
  exact ⟨ad, e, hc 0 _ rfl, by rw [← add_field _ _ 1 (by omega)]; exact hc 1 _ rfl, by rw [← add_field _ _ 2 (by omega)]; exact hc 2 _ rfl, by rw [← add_field _ _ 3 (by omega)]; exact hc 3 _ rfl⟩

end Go.Proofs.Ytmcfhmflncghiaa.Q
namespace Go.Proofs.Ytmcfhmflncghiaa.Q
open Go.RowKit Go.Proofs.YtmcfhmflncghiaaW.PrintWords Go.Proofs.YtmcfhmflncghiaaW.PrintLast Go.Proofs.YtmcfhmflncghiaaW.PrintMore
attribute [local go_sem] max2_int min2_int max_two min_two max_three min_three max_four min_four
set_option linter.unusedVariables false
set_option linter.unusedSimpArgs false

/-! ### spec_l6In: function 40 -/
def spec_l6In.f (a0 : Int) (a1 : Int) (a2 : Int) : Option (Bool) := if a0 ≥ a1 then (some (decide (a0 ≤ a2))) else (some false)
set_option maxHeartbeats 8000000 in
set_option maxRecDepth 100000 in
theorem spec_l6In.calls (a0 : Int) (a1 : Int) (a2 : Int) (r : Bool) (w : World) (h : spec_l6In.f a0 a1 a2 = some r) :
    Calls Try.prog 40 #[.int .i64 a0, .int .i64 a1, .int .i64 a2] w fun e w' => e = .returned (.bool r) ∧ Drawn0 w w' := by
  have H : (if a0 ≥ a1 then (some (decide (a0 ≤ a2))) else (some false)) = some r := h
  clear h
  by_cases c4 : a0 ≥ a1
  · rw [if_pos c4] at H
    have c4b0 : decide (a1 ≤ a0) = true := decide_eq_true c4
    clear c4
    obtain rfl := Option.some.inj H
    go_enter Try.func40, Try.ntmps40
    go_wp2
    go_ret
    exact ⟨qq13, qq24⟩
  · rw [if_neg c4] at H
    have c4b0 : decide (a1 ≤ a0) = false := decide_eq_false c4
    clear c4
    obtain rfl := Option.some.inj H
    go_enter Try.func40, Try.ntmps40
    go_wp2
    go_ret
    exact ⟨qq13, qq24⟩

/-! ### impl_within: function 37 -/
def impl_within.f (a0 : Int) (a1 : Int) : Option (Bool) := if (wrap64 (-a1)) ≤ a0 then (some (decide (a0 ≤ a1))) else (some false)
set_option maxHeartbeats 8000000 in
set_option maxRecDepth 100000 in
theorem impl_within.calls (a0 : Int) (a1 : Int) (r : Bool) (w : World) (h : impl_within.f a0 a1 = some r) :
    Calls Try.prog 37 #[.int .i64 a0, .int .i64 a1] w fun e w' => e = .returned (.bool r) ∧ Drawn0 w w' := by
  have H : (if (wrap64 (-a1)) ≤ a0 then (some (decide (a0 ≤ a1))) else (some false)) = some r := h
  clear h
  by_cases c3 : (wrap64 (-a1)) ≤ a0
  · rw [if_pos c3] at H
    have c3b0 : decide ((wrap64 (-a1)) ≤ a0) = true := decide_eq_true c3
    clear c3
    obtain rfl := Option.some.inj H
    go_enter Try.func37, Try.ntmps37
    go_wp2
    go_ret
    exact ⟨qq13, qq24⟩
  · rw [if_neg c3] at H
    have c3b0 : decide ((wrap64 (-a1)) ≤ a0) = false := decide_eq_false c3
    clear c3
    obtain rfl := Option.some.inj H
    go_enter Try.func37, Try.ntmps37
    go_wp2
    go_ret
    exact ⟨qq13, qq24⟩

/-! ### bits_Mul32: function 68 -/
/-! ### bits_Mul64: function 69 -/
def bits_Mul64.f (a0 : Int) (a1 : Int) : Option (Int × Int) := some (IntKind.u64.wrap ((IntKind.u64.wrap ((IntKind.u64.wrap ((a0 / 4294967296) * (a1 / 4294967296))) + ((IntKind.u64.wrap ((IntKind.u64.wrap ((a0 / 4294967296) * (Go.bits .and .u64 a1 4294967295))) + ((IntKind.u64.wrap ((Go.bits .and .u64 a0 4294967295) * (Go.bits .and .u64 a1 4294967295))) / 4294967296))) / 4294967296))) + ((IntKind.u64.wrap ((Go.bits .and .u64 (IntKind.u64.wrap ((IntKind.u64.wrap ((a0 / 4294967296) * (Go.bits .and .u64 a1 4294967295))) + ((IntKind.u64.wrap ((Go.bits .and .u64 a0 4294967295) * (Go.bits .and .u64 a1 4294967295))) / 4294967296))) 4294967295) + (IntKind.u64.wrap ((Go.bits .and .u64 a0 4294967295) * (a1 / 4294967296))))) / 4294967296)), IntKind.u64.wrap (a0 * a1))
set_option maxHeartbeats 8000000 in
set_option maxRecDepth 100000 in
theorem bits_Mul64.calls (a0 : Int) (a1 : Int) (r1 : Int) (r2 : Int) (w : World) (h : bits_Mul64.f a0 a1 = some (r1, r2)) :
    Calls Try.prog 69 #[.int .u64 a0, .int .u64 a1] w fun e w' => e = .returned (.tuple #[.int .u64 r1, .int .u64 r2]) ∧ Drawn0 w w' := by
  have H : (some (IntKind.u64.wrap ((IntKind.u64.wrap ((IntKind.u64.wrap ((a0 / 4294967296) * (a1 / 4294967296))) + ((IntKind.u64.wrap ((IntKind.u64.wrap ((a0 / 4294967296) * (Go.bits .and .u64 a1 4294967295))) + ((IntKind.u64.wrap ((Go.bits .and .u64 a0 4294967295) * (Go.bits .and .u64 a1 4294967295))) / 4294967296))) / 4294967296))) + ((IntKind.u64.wrap ((Go.bits .and .u64 (IntKind.u64.wrap ((IntKind.u64.wrap ((a0 / 4294967296) * (Go.bits .and .u64 a1 4294967295))) + ((IntKind.u64.wrap ((Go.bits .and .u64 a0 4294967295) * (Go.bits .and .u64 a1 4294967295))) / 4294967296))) 4294967295) + (IntKind.u64.wrap ((Go.bits .and .u64 a0 4294967295) * (a1 / 4294967296))))) / 4294967296)), IntKind.u64.wrap (a0 * a1))) = some (r1, r2) := h
  clear h
  simp only [Option.some.injEq, Prod.mk.injEq] at H
  obtain ⟨rfl, rfl⟩ := H
  go_enter Try.func69, Try.ntmps69
  go_wp2
  go_ret2
  exact ⟨qq13, qq24⟩

/-! ### bits_Mul: function 63 -/
def bits_Mul.f (a0 : Int) (a1 : Int) : Option (Int × Int) := (bits_Mul64.f a0 a1).bind fun bt208 => (some (bt208.1, bt208.2))
set_option maxHeartbeats 8000000 in
set_option maxRecDepth 100000 in
theorem bits_Mul.calls (a0 : Int) (a1 : Int) (r1 : Int) (r2 : Int) (w : World) (h : bits_Mul.f a0 a1 = some (r1, r2)) :
    Calls Try.prog 63 #[.int .u64 a0, .int .u64 a1] w fun e w' => e = .returned (.tuple #[.int .u64 r1, .int .u64 r2]) ∧ Drawn0 w w' := by
  have H : ((bits_Mul64.f a0 a1).bind fun bt208 => (some (bt208.1, bt208.2))) = some (r1, r2) := h
  clear h
  replace H := Option.bind_eq_some_iff.mp H
  obtain ⟨⟨t208, t209⟩, A30, H⟩ := H
  replace H : (some (t208, t209)) = some (r1, r2) := H
  have A3 := Aside0.mk A30
  clear A30
  simp only [Option.some.injEq, Prod.mk.injEq] at H
  obtain ⟨rfl, rfl⟩ := H
  go_enter Try.func63, Try.ntmps63
  go_wp2_with (first | ((with_reducible refine gate_callee (f := 69) rfl ?_); refine goesL_ (some 25) rfl rfl Try.func69 (by kernel_rfl) rfl #[.int .u64 a0, .int .u64 a1] rfl qq5 ?_; (with_reducible refine (bits_Mul64.calls a0 a1 t208 t209 _ A3.out).mono ?_); rintro e w' ⟨rfl, ⟨nd, rfl⟩⟩; refine ⟨_, rfl, ?_⟩))
  go_ret2
  exact ⟨qq13, qq24⟩

/-! ### impl_pick: function 27 -/
def impl_pick.l0 : Nat → List (S32) → List (S32) → List Int → Int → Int → Option ((List (S32)))
  | 0, _, _, _, _, _ => none
  | k + 1, x0, x5, x11, x12, x13 => if x13 < x12 then (if 0 ≤ x13 then (if x13 < (x11.length : Int) then (if 0 ≤ (rd x11 x13) then (if (rd x11 x13) < (x0.length : Int) then (if x5.length < 4398046511104 then (impl_pick.l0 k x0 (x5 ++ [(⟨(rd_T32 x0 (rd x11 x13)).f0, (rd_T32 x0 (rd x11 x13)).f1, (rd_T32 x0 (rd x11 x13)).f2, (rd_T32 x0 (rd x11 x13)).f3⟩ : S32)]) x11 x12 (wrap64 (x13 + 1))) else (none)) else (none)) else (none)) else (none)) else (none)) else (some x5)
def impl_pick.f (k : Nat) (l0 : List (S32)) (l1 : List Int) : Option ((List (S32))) := if 0 ≤ (l1.length : Int) then (if ((l1.length : Int) : Int).toNat ≤ 8796093022208 then (impl_pick.l0 k l0 (([] : List (S32))) l1 (l1.length : Int) 0) else (none)) else (none)
set_option maxHeartbeats 8000000 in
set_option maxRecDepth 100000 in
theorem impl_pick.calls (k : Nat) (A0 : Option Addr) (c0 : Nat) (l0 : List (S32)) (A1 : Option Addr) (c1 : Nat) (l1 : List Int) (r : List (S32)) (w : World) (hr0 : Kd.C k32 w A0 l0.length l0) (hc0 : l0.length ≤ c0) (hr1 : Kd.C (Kd.int .i64) w A1 l1.length l1) (hc1 : l1.length ≤ c1) (h : impl_pick.f k l0 l1 = some r) :
    Calls Try.prog 27 #[.slice A0 l0.length c0, .slice A1 l1.length c1] w fun e w' => ∃ v0_ : Value, e = .returned (v0_) ∧ Kd.R k32 32 w' w.heap.size (fun _ => True) v0_ r ∧ Below w.heap.size w w' := by
  have hu32 := Try.underlying32
  have HR0 := Aside0.mk hr0
  have HC0 := Aside0.mk hc0
  clear hr0 hc0
  have HR1 := Aside0.mk hr1
  have HC1 := Aside0.mk hc1
  clear hr1 hc1
  have HB := Aside0.mk (Below.refl w.heap.size w)
  have H : (if 0 ≤ (l1.length : Int) then (if ((l1.length : Int) : Int).toNat ≤ 8796093022208 then (impl_pick.l0 k l0 (([] : List (S32))) l1 (l1.length : Int) 0) else (none)) else (none)) = some r := h
  clear h
  by_cases c3 : 0 ≤ (l1.length : Int)
  · rw [if_pos c3] at H
    have c3b0 := eq_true c3
    have c3b1 : decide (0 ≤ (l1.length : Int)) = true := decide_eq_true c3
    clear c3
    by_cases c4 : ((l1.length : Int) : Int).toNat ≤ 8796093022208
    · rw [if_pos c4] at H
      have c4b0 := eq_true c4
      have c4b1 : decide (((l1.length : Int) : Int).toNat ≤ 8796093022208) = true := decide_eq_true c4
      clear c4
      obtain ⟨y215, hy215⟩ : ∃ y_ : List (S32), y_ = (([] : List (S32))) := ⟨_, rfl⟩
      replace H : (impl_pick.l0 k l0 y215 l1 (l1.length : Int) 0) = some r := by first | (rw [hy215]; with_reducible exact H) | (have H2_ := (Option.bind_some _ _).symm.trans H; rw [hy215]; with_reducible exact H2_) | (have H2_ := (Option.bind_some _ _).symm.trans H; with_reducible exact H2_) | with_reducible exact H | (rw [hy215]; exact H) | exact H
      have Ny215 := Aside0.mk hy215
      clear hy215
      have H' := Aside0.mk H
      clear H
      go_enter Try.func27, Try.ntmps27
      go_wp2_with (first | ((with_reducible refine gate_dst (N := 10) rfl ?_); refine Kd.R_make0 k32 _ 32 rfl (N := 10) rfl 23 _ _ rfl (l1.length : Int) rfl rfl Try.underlying23 (.agg #[(.int .i64 0), (.int .i64 0), (.int .i64 0), (.int .i64 0)]) 32 info32 rfl (by decide) (by omega) z32 (ok := fun _ => True) (okp := fun _ => True) (k32_mkM _ _ _ z32 ) (fun _ hk => hk) trivial (of_decide_eq_true qq3) (Nat.le_trans (Nat.mul_le_mul_right _ (of_decide_eq_true qq3 : (l1.length : Int).toNat ≤ 8796093022208)) (by omega)) (Below.refl _ _) (Nat.le_refl _) ?_; intro v216 w5 ho6 hb hg_ hnew_; clear hg_ hnew_; (first | rw [← Ny215.out] at ho6 | (simp only [Int.reduceToNat] at ho6; rw [← Ny215.out] at ho6)); have n0_ := Aside0.mk (Kd.R_lower ho6 (below_size qq1)); have n1_ := Aside0.mk (below_step qq1 hb); clear HB; have HO217 := n0_; have HB := n1_; clear n0_ n1_; clear hb ho6))
      go_loopg [5, 13] k (fun kq v5 v13 w' => ∃ (x5_1 : List (S32)) (x13_1 : Int), v13 = .int .i64 x13_1 ∧ Aside0 (impl_pick.l0 kq l0 x5_1 l1 (l1.length : Int) x13_1 = some r) ∧ Aside0 (kq ≤ k) ∧ Aside0 (Kd.R k32 32 w' w.heap.size (fun _ => True) v5 x5_1) ∧ Aside0 (Below w.heap.size w w'))
      case atStart => exact ⟨(y215), (0), qq13, H', ⟨Nat.le_refl _⟩, ⟨qq2 HO217.out⟩, ⟨qq1⟩⟩
      case round =>
        clear H'
        try clear c1
        try clear c2
        try clear p2
        try clear c3
        try clear c3b0
        try clear c3b1
        try clear c4
        try clear c4b0
        try clear c4b1
        obtain ⟨x5_1, x13_1, rfl, HA, HK1, HO_5, HB⟩ := hrel
        cases gk with
        | zero => exact absurd HA.out (by simp [impl_pick.l0])
        | succ k1 =>
          have H := HA.out
          clear HA
          simp only [impl_pick.l0] at H
          by_cases c7 : x13_1 < (l1.length : Int)
          · rw [if_pos c7] at H
            have c7b0 : decide (x13_1 < (l1.length : Int)) = true := decide_eq_true c7
            clear c7
            by_cases c8 : 0 ≤ x13_1
            · rw [if_pos c8] at H
              have c8b0 : decide (0 ≤ x13_1) = true := decide_eq_true c8
              clear c8
              by_cases c9 : x13_1 < (l1.length : Int)
              · rw [if_pos c9] at H
                have c9b0 : decide (x13_1 < (l1.length : Int)) = true := decide_eq_true c9
                clear c9
                by_cases c10 : 0 ≤ (rd l1 x13_1)
                · rw [if_pos c10] at H
                  have c10b0 : decide (0 ≤ (rd l1 x13_1)) = true := decide_eq_true c10
                  clear c10
                  by_cases c11 : (rd l1 x13_1) < (l0.length : Int)
                  · rw [if_pos c11] at H
                    have c11b0 : decide ((rd l1 x13_1) < (l0.length : Int)) = true := decide_eq_true c11
                    clear c11
                    by_cases c12 : x5_1.length < 4398046511104
                    · rw [if_pos c12] at H
                      have LMc12 := Aside0.mk c12
                      clear c12
                      obtain ⟨y220, hy220⟩ : ∃ y_ : List (S32), y_ = (x5_1 ++ [(⟨(rd_T32 l0 (rd l1 x13_1)).f0, (rd_T32 l0 (rd l1 x13_1)).f1, (rd_T32 l0 (rd l1 x13_1)).f2, (rd_T32 l0 (rd l1 x13_1)).f3⟩ : S32)]) := ⟨_, rfl⟩
                      replace H : (impl_pick.l0 k1 l0 y220 l1 (l1.length : Int) (wrap64 (x13_1 + 1))) = some r := by first | (rw [hy220]; with_reducible exact H) | (have H2_ := (Option.bind_some _ _).symm.trans H; rw [hy220]; with_reducible exact H2_) | (have H2_ := (Option.bind_some _ _).symm.trans H; with_reducible exact H2_) | with_reducible exact H | (rw [hy220]; exact H) | exact H
                      have Ny220 := Aside0.mk hy220
                      clear hy220
                      have H' := Aside0.mk H
                      clear H
                      have p218 : 0 ≤ (x13_1 : Int) := of_decide_eq_true qq3
                      have q218 : x13_1 < (l1.length : Int) := of_decide_eq_true qq3
                      obtain ⟨ad218, e218, hx218_0⟩ := Kd.at_int HR1.out x13_1 p218 q218
                      cases e218
                      replace hx218_0 := (HB.out.cell (World.block_lt_of_cell? w _ hx218_0)).trans hx218_0
                      replace p218 := eq_true p218
                      replace q218 := eq_true q218
                      have p219 : 0 ≤ ((rd l1 x13_1) : Int) := of_decide_eq_true qq3
                      have q219 : (rd l1 x13_1) < (l0.length : Int) := of_decide_eq_true qq3
                      obtain ⟨ad219, e219, hx219_0, hx219_1, hx219_2, hx219_3⟩ := at_T32 HR0.out (rd l1 x13_1) p219 q219
                      cases e219
                      replace hx219_0 := (HB.out.cell (World.block_lt_of_cell? w _ hx219_0)).trans hx219_0
                      replace hx219_1 := (HB.out.cell (World.block_lt_of_cell? w _ hx219_1)).trans hx219_1
                      replace hx219_2 := (HB.out.cell (World.block_lt_of_cell? w _ hx219_2)).trans hx219_2
                      replace hx219_3 := (HB.out.cell (World.block_lt_of_cell? w _ hx219_3)).trans hx219_3
                      replace p219 := eq_true p219
                      replace q219 := eq_true q219
                      go_wp2_with (first | ((with_reducible refine gate_builtin (b := .append) (xs := #[.tmp 17, .tmp 22]) rfl ?_); at_builtin; refine Kd.R_append k32 (w0 := w) w.heap.size rfl (.tmp 17) (.tmp 22) 23 32 (.agg #[(.int .i64 0), (.int .i64 0), (.int .i64 0), (.int .i64 0)]) 32 rfl Try.underlying23 info32 rfl (by decide) (by omega) u5 x5_1 (⟨(rd_T32 l0 (rd l1 x13_1)).f0, (rd_T32 l0 (rd l1 x13_1)).f1, (rd_T32 l0 (rd l1 x13_1)).f2, (rd_T32 l0 (rd l1 x13_1)).f3⟩ : S32) [.int .i64 ((rd_T32 l0 (rd l1 x13_1)).f0), .int .i64 ((rd_T32 l0 (rd l1 x13_1)).f1), .int .i64 ((rd_T32 l0 (rd l1 x13_1)).f2), .int .i64 ((rd_T32 l0 (rd l1 x13_1)).f3)] (fun _ => True) (fun _ => False) rfl rfl ?aP (fun _ hk => hk.elim) ?aF ?aO ?aB ?aS ?aL ?_; (case aP => exact k32_mkM _ _ _ (⟨(rd_T32 l0 (rd l1 x13_1)).f0, (rd_T32 l0 (rd l1 x13_1)).f1, (rd_T32 l0 (rd l1 x13_1)).f2, (rd_T32 l0 (rd l1 x13_1)).f3⟩ : S32)); (case aB => exact qq1); (case aF => exact qq75); (case aO => exact (qq2 HO_5.out)); (case aS => exact (below_size qq1)); (case aL => have := LMc12.out; omega); intro v221 w13 ho hb hg hat; rw [← Ny220.out] at ho; have n0_ := Aside0.mk (hb); have n1_ := Aside0.mk (ho); clear HB; clear HO_5; have HB := n0_; have HO222 := n1_; clear n0_ n1_; clear ho hb hg hat))
                      go_roundg k1
                      case measure => have := HK1.out; omega
                      case rel => exact ⟨(y220), (wrap64 (x13_1 + 1)), qq13, H', ⟨by have := HK1.out; omega⟩, ⟨qq2 HO222.out⟩, ⟨qq1⟩⟩
                    · rw [if_neg c12] at H
                      exact absurd H (by simp)
                  · rw [if_neg c11] at H
                    exact absurd H (by simp)
                · rw [if_neg c10] at H
                  exact absurd H (by simp)
              · rw [if_neg c9] at H
                exact absurd H (by simp)
            · rw [if_neg c8] at H
              exact absurd H (by simp)
          · rw [if_neg c7] at H
            have c7b0 : decide (x13_1 < (l1.length : Int)) = false := decide_eq_false c7
            clear c7
            obtain rfl := Option.some.inj H
            go_wp2
            go_ret
            exact ⟨_, qq11, qq2 HO_5.out, qq1⟩
    · rw [if_neg c4] at H
      exact absurd H (by simp)
  · rw [if_neg c3] at H
    exact absurd H (by simp)

/-! ### slices_Index_int_int: function 64 -/
def slices_Index_int_int.l0 : Nat → List Int → Int → Int → Int → Option (Int)
  | 0, _, _, _, _ => none
  | k + 1, x0, x1, x7, x8 => if x8 < x7 then (if 0 ≤ x8 then (if x8 < (x0.length : Int) then (if x1 = (rd x0 x8) then (some x8) else (slices_Index_int_int.l0 k x0 x1 x7 (wrap64 (x8 + 1)))) else (none)) else (none)) else (some (-1))
def slices_Index_int_int.f (k : Nat) (l0 : List Int) (a1 : Int) : Option (Int) := slices_Index_int_int.l0 k l0 a1 (l0.length : Int) 0
set_option maxHeartbeats 8000000 in
set_option maxRecDepth 100000 in
theorem slices_Index_int_int.calls (k : Nat) (A0 : Option Addr) (c0 : Nat) (l0 : List Int) (a1 : Int) (r : Int) (w : World) (hr0 : Kd.C (Kd.int .i64) w A0 l0.length l0) (hc0 : l0.length ≤ c0) (h : slices_Index_int_int.f k l0 a1 = some r) :
    Calls Try.prog 64 #[.slice A0 l0.length c0, .int .i64 a1] w fun e w' => e = .returned (.int .i64 r) ∧ Drawn0 w w' := by
  have HR0 := Aside0.mk hr0
  have HC0 := Aside0.mk hc0
  clear hr0 hc0
  have H : (slices_Index_int_int.l0 k l0 a1 (l0.length : Int) 0) = some r := h
  clear h
  have H' := Aside0.mk H
  clear H
  go_enter Try.func64, Try.ntmps64
  go_wp2
  go_loopg [8] k (fun kq v8 w' => ∃ (x8_1 : Int), v8 = .int .i64 x8_1 ∧ Aside0 (slices_Index_int_int.l0 kq l0 a1 (l0.length : Int) x8_1 = some r) ∧ Aside0 (kq ≤ k) ∧ Drawn0 w w')
  case atStart => exact ⟨(0), qq13, H', ⟨Nat.le_refl _⟩, qq24⟩
  case round =>
    clear H'
    try clear p2
    obtain ⟨x8_1, rfl, HA, HK1, ⟨m1, rfl⟩⟩ := hrel
    cases gk with
    | zero => exact absurd HA.out (by simp [slices_Index_int_int.l0])
    | succ k1 =>
      have H := HA.out
      clear HA
      simp only [slices_Index_int_int.l0] at H
      by_cases c3 : x8_1 < (l0.length : Int)
      · rw [if_pos c3] at H
        have c3b0 : decide (x8_1 < (l0.length : Int)) = true := decide_eq_true c3
        clear c3
        by_cases c4 : 0 ≤ x8_1
        · rw [if_pos c4] at H
          have c4b0 : decide (0 ≤ x8_1) = true := decide_eq_true c4
          clear c4
          by_cases c5 : x8_1 < (l0.length : Int)
          · rw [if_pos c5] at H
            have c5b0 : decide (x8_1 < (l0.length : Int)) = true := decide_eq_true c5
            clear c5
            by_cases c6 : a1 = (rd l0 x8_1)
            · rw [if_pos c6] at H
              have c6b0 : (a1 == (rd l0 x8_1)) = true := beq_iff_eq.mpr c6
              have c6b1 : (a1 != (rd l0 x8_1)) = false := bne_eq_false_iff_eq.mpr c6
              clear c6
              obtain rfl := Option.some.inj H
              have p243 : 0 ≤ (x8_1 : Int) := of_decide_eq_true qq3
              have q243 : x8_1 < (l0.length : Int) := of_decide_eq_true qq3
              obtain ⟨ad243, e243, hx243_0⟩ := Kd.at_int HR0.out x8_1 p243 q243
              cases e243
              replace p243 := eq_true p243
              replace q243 := eq_true q243
              go_wp2
              go_ret
              exact ⟨qq13, qq24⟩
            · rw [if_neg c6] at H
              have c6b0 : (a1 == (rd l0 x8_1)) = false := beq_eq_false_iff_ne.mpr c6
              have c6b1 : (a1 != (rd l0 x8_1)) = true := bne_iff_ne.mpr c6
              have H' := Aside0.mk H
              clear H
              have p243 : 0 ≤ (x8_1 : Int) := of_decide_eq_true qq3
              have q243 : x8_1 < (l0.length : Int) := of_decide_eq_true qq3
              obtain ⟨ad243, e243, hx243_0⟩ := Kd.at_int HR0.out x8_1 p243 q243
              cases e243
              replace p243 := eq_true p243
              replace q243 := eq_true q243
              go_wp2
              go_roundg k1
              case measure => have := HK1.out; omega
              case rel => exact ⟨(wrap64 (x8_1 + 1)), qq13, H', ⟨by have := HK1.out; omega⟩, qq24⟩
          · rw [if_neg c5] at H
            exact absurd H (by simp)
        · rw [if_neg c4] at H
          exact absurd H (by simp)
      · rw [if_neg c3] at H
        have c3b0 : decide (x8_1 < (l0.length : Int)) = false := decide_eq_false c3
        clear c3
        obtain rfl := Option.some.inj H
        go_wp2
        go_ret
        exact ⟨qq13, qq24⟩

/-! ### slices_Contains_int_int: function 48 -/
def slices_Contains_int_int.f (k : Nat) (l0 : List Int) (a1 : Int) : Option (Bool) := (slices_Index_int_int.f k l0 a1).bind fun t244 => (some (decide (t244 ≥ 0)))
set_option maxHeartbeats 8000000 in
set_option maxRecDepth 100000 in
theorem slices_Contains_int_int.calls (k : Nat) (A0 : Option Addr) (c0 : Nat) (l0 : List Int) (a1 : Int) (r : Bool) (w : World) (hr0 : Kd.C (Kd.int .i64) w A0 l0.length l0) (hc0 : l0.length ≤ c0) (h : slices_Contains_int_int.f k l0 a1 = some r) :
    Calls Try.prog 48 #[.slice A0 l0.length c0, .int .i64 a1] w fun e w' => e = .returned (.bool r) ∧ Drawn0 w w' := by
  have HR0 := Aside0.mk hr0
  have HC0 := Aside0.mk hc0
  clear hr0 hc0
  have H : ((slices_Index_int_int.f k l0 a1).bind fun t244 => (some (decide (t244 ≥ 0)))) = some r := h
  clear h
  replace H := Option.bind_eq_some_iff.mp H
  obtain ⟨t244, A30, H⟩ := H
  replace H : (some (decide (t244 ≥ 0))) = some r := H
  have A3 := Aside0.mk A30
  clear A30
  obtain rfl := Option.some.inj H
  go_enter Try.func48, Try.ntmps48
  go_wp2_with (first | ((with_reducible refine gate_callee (f := 64) rfl ?_); refine goesL_ (some 7) rfl rfl Try.func64 (by kernel_rfl) rfl #[.slice A0 l0.length c0, .int .i64 a1] rfl qq5 ?_; (with_reducible refine (slices_Index_int_int.calls k _ _ l0 a1 t244 _ ?side1 ?side2 A3.out).mono ?_); (case side1 => exact qq15 HR0.out); (case side2 => exact HC0.out); rintro e w' ⟨rfl, ⟨nd, rfl⟩⟩; refine ⟨_, rfl, ?_⟩))
  go_ret
  exact ⟨qq13, qq24⟩

end Go.Proofs.Ytmcfhmflncghiaa.Q
namespace Go.Proofs.Ytmcfhmflncghiaa.Q
open Go.RowKit Go.Proofs.YtmcfhmflncghiaaW.PrintWords Go.Proofs.YtmcfhmflncghiaaW.PrintLast Go.Proofs.YtmcfhmflncghiaaW.PrintMore
attribute [local go_sem] max2_int min2_int max_two min_two max_three min_three max_four min_four
set_option linter.unusedVariables false
set_option linter.unusedSimpArgs false

/-! ### laws_sameInts: function 17 -/
def laws_sameInts.l0 : Nat → List Int → List Int → Int → Option (Bool)
  | 0, _, _, _ => none
  | k + 1, x0, x1, x5 => if x5 < (x0.length : Int) then (if 0 ≤ x5 then (if x5 < (x1.length : Int) then (if (rd x0 x5) = (rd x1 x5) then (laws_sameInts.l0 k x0 x1 (wrap64 (x5 + 1))) else (some false)) else (none)) else (none)) else (some true)
def laws_sameInts.f (k : Nat) (l0 : List Int) (l1 : List Int) : Option (Bool) := if (l0.length : Int) = (l1.length : Int) then (laws_sameInts.l0 k l0 l1 0) else (some false)
set_option maxHeartbeats 8000000 in
set_option maxRecDepth 100000 in
theorem laws_sameInts.calls (k : Nat) (A0 : Option Addr) (c0 : Nat) (l0 : List Int) (A1 : Option Addr) (c1 : Nat) (l1 : List Int) (r : Bool) (w : World) (hr0 : Kd.C (Kd.int .i64) w A0 l0.length l0) (hc0 : l0.length ≤ c0) (hr1 : Kd.C (Kd.int .i64) w A1 l1.length l1) (hc1 : l1.length ≤ c1) (h : laws_sameInts.f k l0 l1 = some r) :
    Calls Try.prog 17 #[.slice A0 l0.length c0, .slice A1 l1.length c1] w fun e w' => e = .returned (.bool r) ∧ Drawn0 w w' := by
  have HR0 := Aside0.mk hr0
  have HC0 := Aside0.mk hc0
  clear hr0 hc0
  have HR1 := Aside0.mk hr1
  have HC1 := Aside0.mk hc1
  clear hr1 hc1
  have H : (if (l0.length : Int) = (l1.length : Int) then (laws_sameInts.l0 k l0 l1 0) else (some false)) = some r := h
  clear h
  by_cases c3 : (l0.length : Int) = (l1.length : Int)
  · rw [if_pos c3] at H
    have c3b0 : ((l0.length : Int) == (l1.length : Int)) = true := beq_iff_eq.mpr c3
    have c3b1 : ((l0.length : Int) != (l1.length : Int)) = false := bne_eq_false_iff_eq.mpr c3
    have c3b2 : (l0.length == l1.length) = true := by first | simpa using c3 | (simp at c3 ⊢; omega)
    clear c3
    have H' := Aside0.mk H
    clear H
    go_enter Try.func17, Try.ntmps17
    go_wp2
    repeat (go_quiet (fail); try go_wp2)
    go_loopg [5] k (fun kq v5 w' => ∃ (x5_1 : Int), v5 = .int .i64 x5_1 ∧ Aside0 (laws_sameInts.l0 kq l0 l1 x5_1 = some r) ∧ Aside0 (kq ≤ k) ∧ Drawn0 w w')
    case atStart => exact ⟨(0), qq13, H', ⟨Nat.le_refl _⟩, qq24⟩
    case round =>
      clear H'
      try clear c1
      try clear p2
      try clear c3
      try clear c3b0
      try clear c3b1
      try clear c3b2
      obtain ⟨x5_1, rfl, HA, HK1, ⟨m1, rfl⟩⟩ := hrel
      cases gk with
      | zero => exact absurd HA.out (by simp [laws_sameInts.l0])
      | succ k1 =>
        have H := HA.out
        clear HA
        simp only [laws_sameInts.l0] at H
        by_cases c4 : x5_1 < (l0.length : Int)
        · rw [if_pos c4] at H
          have c4b0 : decide (x5_1 < (l0.length : Int)) = true := decide_eq_true c4
          clear c4
          by_cases c5 : 0 ≤ x5_1
          · rw [if_pos c5] at H
            have c5b0 : decide (0 ≤ x5_1) = true := decide_eq_true c5
            clear c5
            by_cases c6 : x5_1 < (l1.length : Int)
            · rw [if_pos c6] at H
              have c6b0 : decide (x5_1 < (l1.length : Int)) = true := decide_eq_true c6
              clear c6
              by_cases c7 : (rd l0 x5_1) = (rd l1 x5_1)
              · rw [if_pos c7] at H
                have c7b0 : ((rd l0 x5_1) == (rd l1 x5_1)) = true := beq_iff_eq.mpr c7
                have c7b1 : ((rd l0 x5_1) != (rd l1 x5_1)) = false := bne_eq_false_iff_eq.mpr c7
                clear c7
                have H' := Aside0.mk H
                clear H
                have p533 : 0 ≤ (x5_1 : Int) := of_decide_eq_true qq3
                have q533 : x5_1 < (l0.length : Int) := of_decide_eq_true qq3
                obtain ⟨ad533, e533, hx533_0⟩ := Kd.at_int HR0.out x5_1 p533 q533
                cases e533
                replace p533 := eq_true p533
                replace q533 := eq_true q533
                have p534 : 0 ≤ (x5_1 : Int) := of_decide_eq_true qq3
                have q534 : x5_1 < (l1.length : Int) := of_decide_eq_true qq3
                obtain ⟨ad534, e534, hx534_0⟩ := Kd.at_int HR1.out x5_1 p534 q534
                cases e534
                replace p534 := eq_true p534
                replace q534 := eq_true q534
                go_wp2
                repeat (go_quiet (fail); try go_wp2)
                go_roundg k1
                case measure => have := HK1.out; omega
                case rel => exact ⟨(wrap64 (x5_1 + 1)), qq13, H', ⟨by have := HK1.out; omega⟩, qq24⟩
              · rw [if_neg c7] at H
                have c7b0 : ((rd l0 x5_1) == (rd l1 x5_1)) = false := beq_eq_false_iff_ne.mpr c7
                have c7b1 : ((rd l0 x5_1) != (rd l1 x5_1)) = true := bne_iff_ne.mpr c7
                obtain rfl := Option.some.inj H
                have p533 : 0 ≤ (x5_1 : Int) := of_decide_eq_true qq3
                have q533 : x5_1 < (l0.length : Int) := of_decide_eq_true qq3
                obtain ⟨ad533, e533, hx533_0⟩ := Kd.at_int HR0.out x5_1 p533 q533
                cases e533
                replace p533 := eq_true p533
                replace q533 := eq_true q533
                have p534 : 0 ≤ (x5_1 : Int) := of_decide_eq_true qq3
                have q534 : x5_1 < (l1.length : Int) := of_decide_eq_true qq3
                obtain ⟨ad534, e534, hx534_0⟩ := Kd.at_int HR1.out x5_1 p534 q534
                cases e534
                replace p534 := eq_true p534
                replace q534 := eq_true q534
                go_wp2
                repeat (go_quiet (fail); try go_wp2)
                go_ret
                exact ⟨qq13, qq24⟩
            · rw [if_neg c6] at H
              exact absurd H (by simp)
          · rw [if_neg c5] at H
            exact absurd H (by simp)
        · rw [if_neg c4] at H
          have c4b0 : decide (x5_1 < (l0.length : Int)) = false := decide_eq_false c4
          clear c4
          obtain rfl := Option.some.inj H
          go_wp2
          repeat (go_quiet (fail); try go_wp2)
          go_ret
          exact ⟨qq13, qq24⟩
  · rw [if_neg c3] at H
    have c3b0 : ((l0.length : Int) == (l1.length : Int)) = false := beq_eq_false_iff_ne.mpr c3
    have c3b1 : ((l0.length : Int) != (l1.length : Int)) = true := bne_iff_ne.mpr c3
    have c3b2 : (l0.length == l1.length) = false := by first | simpa using c3 | (simp at c3 ⊢; omega)
    obtain rfl := Option.some.inj H
    go_enter Try.func17, Try.ntmps17
    go_wp2
    repeat (go_quiet (fail); try go_wp2)
    go_ret
    exact ⟨qq13, qq24⟩

/-! ### impl_lengthsSum: function 56 -/
/-! ### impl_floorParts: function 57 -/
/-! ### spec_l14Sum: function 42 -/
/-! ### spec_l14Lengths: function 39 -/
end Go.Proofs.Ytmcfhmflncghiaa.Q
namespace Go.Proofs.Ytmcfhmflncghiaa.Q
open Go.RowKit Go.Proofs.YtmcfhmflncghiaaW.PrintWords Go.Proofs.YtmcfhmflncghiaaW.PrintLast Go.Proofs.YtmcfhmflncghiaaW.PrintMore
attribute [local go_sem] max2_int min2_int max_two min_two max_three min_three max_four min_four
set_option linter.unusedVariables false
set_option linter.unusedSimpArgs false

/-! ### impl_runValid: function 43 -/
def impl_runValid.f (a0 : Int) (a1_0 : Int) (a1_1 : Int) (a1_2 : Int) (a1_3 : Int) : Option (Bool) := if a1_0 < 0 then (some false) else (if a1_0 ≥ a0 then (some false) else (if a1_1 < 0 then (some false) else (if a1_1 ≥ a0 then (some false) else (if a1_0 = a1_1 then (some false) else ((impl_within.f a1_2 100000).bind fun t204 => (if t204 = true then (if a1_3 ≥ 1 then (some (decide (a1_3 ≤ 9))) else (some false)) else (some false)))))))
set_option maxHeartbeats 8000000 in
set_option maxRecDepth 100000 in
theorem impl_runValid.calls (a0 : Int) (a1_0 : Int) (a1_1 : Int) (a1_2 : Int) (a1_3 : Int) (r : Bool) (w : World) (h : impl_runValid.f a0 a1_0 a1_1 a1_2 a1_3 = some r) :
    Calls Try.prog 43 #[.int .i64 a0, .agg #[.int .i64 a1_0, .int .i64 a1_1, .int .i64 a1_2, .int .i64 a1_3]] w fun e w' => e = .returned (.bool r) ∧ Below w.heap.size w w' := by
  have hu32 := Try.underlying32
  have HB := Aside0.mk (Below.refl w.heap.size w)
  have H : (if a1_0 < 0 then (some false) else (if a1_0 ≥ a0 then (some false) else (if a1_1 < 0 then (some false) else (if a1_1 ≥ a0 then (some false) else (if a1_0 = a1_1 then (some false) else ((impl_within.f a1_2 100000).bind fun t204 => (if t204 = true then (if a1_3 ≥ 1 then (some (decide (a1_3 ≤ 9))) else (some false)) else (some false)))))))) = some r := h
  clear h
  by_cases c3 : a1_0 < 0
  · rw [if_pos c3] at H
    have c3b0 : decide (a1_0 < 0) = true := decide_eq_true c3
    clear c3
    obtain rfl := Option.some.inj H
    go_enter Try.func43, Try.ntmps43
    go_wp2_with (first | ((with_reducible refine gate_dst (N := 3) rfl ?_); refine box_event ?hg (N := 3) ?hd (cs := #[.int .i64 a1_0, .int .i64 a1_1, .int .i64 a1_2, .int .i64 a1_3]) (t := 32) ?hr ?_; (case hd => rfl); (case hg => rfl); (case hr => exact qq16); intro gb203 hg w4 hbox hb; have n0_ := Aside0.mk (below_step qq1 hb); have n1_ := Aside0.mk (hbox); have n2_ := Aside0.mk ((qq33 : w.heap.size ≤ gb203)); have n3_ := Aside0.mk ((qq33 : w.heap.size ≤ gb203)); clear HB; have HB := n0_; have BK203 := n1_; have GW203 := n2_; have GE203 := n3_; clear n0_ n1_ n2_ n3_; clear hb hbox hg; have hcz5_0 : w4.cell? ⟨gb203, 0, none⟩ = some (.int .i64 a1_0) := (blk_cell BK203.out 0).trans rfl; have hcz5_1 : w4.cell? ⟨gb203, 1, none⟩ = some (.int .i64 a1_1) := (blk_cell BK203.out 1).trans rfl; have hcz5_2 : w4.cell? ⟨gb203, 2, none⟩ = some (.int .i64 a1_2) := (blk_cell BK203.out 2).trans rfl; have hcz5_3 : w4.cell? ⟨gb203, 3, none⟩ = some (.int .i64 a1_3) := (blk_cell BK203.out 3).trans rfl; have hfz5_0 := blk_frozen BK203.out 0; have hfz5_1 := blk_frozen BK203.out 1; have hfz5_2 := blk_frozen BK203.out 2; have hfz5_3 := blk_frozen BK203.out 3))
    go_ret
    exact ⟨qq11, qq4 HB.out GE203.out⟩
  · rw [if_neg c3] at H
    have c3b0 : decide (a1_0 < 0) = false := decide_eq_false c3
    clear c3
    by_cases c6 : a1_0 ≥ a0
    · rw [if_pos c6] at H
      have c6b0 : decide (a0 ≤ a1_0) = true := decide_eq_true c6
      clear c6
      obtain rfl := Option.some.inj H
      go_enter Try.func43, Try.ntmps43
      go_wp2_with (first | ((with_reducible refine gate_dst (N := 3) rfl ?_); refine box_event ?hg (N := 3) ?hd (cs := #[.int .i64 a1_0, .int .i64 a1_1, .int .i64 a1_2, .int .i64 a1_3]) (t := 32) ?hr ?_; (case hd => rfl); (case hg => rfl); (case hr => exact qq16); intro gb203 hg w7 hbox hb; have n0_ := Aside0.mk (below_step qq1 hb); have n1_ := Aside0.mk (hbox); have n2_ := Aside0.mk ((qq33 : w.heap.size ≤ gb203)); have n3_ := Aside0.mk ((qq33 : w.heap.size ≤ gb203)); clear HB; have HB := n0_; have BK203 := n1_; have GW203 := n2_; have GE203 := n3_; clear n0_ n1_ n2_ n3_; clear hb hbox hg; have hcz8_0 : w7.cell? ⟨gb203, 0, none⟩ = some (.int .i64 a1_0) := (blk_cell BK203.out 0).trans rfl; have hcz8_1 : w7.cell? ⟨gb203, 1, none⟩ = some (.int .i64 a1_1) := (blk_cell BK203.out 1).trans rfl; have hcz8_2 : w7.cell? ⟨gb203, 2, none⟩ = some (.int .i64 a1_2) := (blk_cell BK203.out 2).trans rfl; have hcz8_3 : w7.cell? ⟨gb203, 3, none⟩ = some (.int .i64 a1_3) := (blk_cell BK203.out 3).trans rfl; have hfz8_0 := blk_frozen BK203.out 0; have hfz8_1 := blk_frozen BK203.out 1; have hfz8_2 := blk_frozen BK203.out 2; have hfz8_3 := blk_frozen BK203.out 3))
      go_ret
      exact ⟨qq11, qq4 HB.out GE203.out⟩
    · rw [if_neg c6] at H
      have c6b0 : decide (a0 ≤ a1_0) = false := decide_eq_false c6
      clear c6
      by_cases c9 : a1_1 < 0
      · rw [if_pos c9] at H
        have c9b0 : decide (a1_1 < 0) = true := decide_eq_true c9
        clear c9
        obtain rfl := Option.some.inj H
        go_enter Try.func43, Try.ntmps43
        go_wp2_with (first | ((with_reducible refine gate_dst (N := 3) rfl ?_); refine box_event ?hg (N := 3) ?hd (cs := #[.int .i64 a1_0, .int .i64 a1_1, .int .i64 a1_2, .int .i64 a1_3]) (t := 32) ?hr ?_; (case hd => rfl); (case hg => rfl); (case hr => exact qq16); intro gb203 hg w10 hbox hb; have n0_ := Aside0.mk (below_step qq1 hb); have n1_ := Aside0.mk (hbox); have n2_ := Aside0.mk ((qq33 : w.heap.size ≤ gb203)); have n3_ := Aside0.mk ((qq33 : w.heap.size ≤ gb203)); clear HB; have HB := n0_; have BK203 := n1_; have GW203 := n2_; have GE203 := n3_; clear n0_ n1_ n2_ n3_; clear hb hbox hg; have hcz11_0 : w10.cell? ⟨gb203, 0, none⟩ = some (.int .i64 a1_0) := (blk_cell BK203.out 0).trans rfl; have hcz11_1 : w10.cell? ⟨gb203, 1, none⟩ = some (.int .i64 a1_1) := (blk_cell BK203.out 1).trans rfl; have hcz11_2 : w10.cell? ⟨gb203, 2, none⟩ = some (.int .i64 a1_2) := (blk_cell BK203.out 2).trans rfl; have hcz11_3 : w10.cell? ⟨gb203, 3, none⟩ = some (.int .i64 a1_3) := (blk_cell BK203.out 3).trans rfl; have hfz11_0 := blk_frozen BK203.out 0; have hfz11_1 := blk_frozen BK203.out 1; have hfz11_2 := blk_frozen BK203.out 2; have hfz11_3 := blk_frozen BK203.out 3))
        go_ret
        exact ⟨qq11, qq4 HB.out GE203.out⟩
      · rw [if_neg c9] at H
        have c9b0 : decide (a1_1 < 0) = false := decide_eq_false c9
        clear c9
        by_cases c12 : a1_1 ≥ a0
        · rw [if_pos c12] at H
          have c12b0 : decide (a0 ≤ a1_1) = true := decide_eq_true c12
          clear c12
          obtain rfl := Option.some.inj H
          go_enter Try.func43, Try.ntmps43
          go_wp2_with (first | ((with_reducible refine gate_dst (N := 3) rfl ?_); refine box_event ?hg (N := 3) ?hd (cs := #[.int .i64 a1_0, .int .i64 a1_1, .int .i64 a1_2, .int .i64 a1_3]) (t := 32) ?hr ?_; (case hd => rfl); (case hg => rfl); (case hr => exact qq16); intro gb203 hg w13 hbox hb; have n0_ := Aside0.mk (below_step qq1 hb); have n1_ := Aside0.mk (hbox); have n2_ := Aside0.mk ((qq33 : w.heap.size ≤ gb203)); have n3_ := Aside0.mk ((qq33 : w.heap.size ≤ gb203)); clear HB; have HB := n0_; have BK203 := n1_; have GW203 := n2_; have GE203 := n3_; clear n0_ n1_ n2_ n3_; clear hb hbox hg; have hcz14_0 : w13.cell? ⟨gb203, 0, none⟩ = some (.int .i64 a1_0) := (blk_cell BK203.out 0).trans rfl; have hcz14_1 : w13.cell? ⟨gb203, 1, none⟩ = some (.int .i64 a1_1) := (blk_cell BK203.out 1).trans rfl; have hcz14_2 : w13.cell? ⟨gb203, 2, none⟩ = some (.int .i64 a1_2) := (blk_cell BK203.out 2).trans rfl; have hcz14_3 : w13.cell? ⟨gb203, 3, none⟩ = some (.int .i64 a1_3) := (blk_cell BK203.out 3).trans rfl; have hfz14_0 := blk_frozen BK203.out 0; have hfz14_1 := blk_frozen BK203.out 1; have hfz14_2 := blk_frozen BK203.out 2; have hfz14_3 := blk_frozen BK203.out 3))
          go_ret
          exact ⟨qq11, qq4 HB.out GE203.out⟩
        · rw [if_neg c12] at H
          have c12b0 : decide (a0 ≤ a1_1) = false := decide_eq_false c12
          clear c12
          by_cases c15 : a1_0 = a1_1
          · rw [if_pos c15] at H
            have c15b0 : (a1_0 == a1_1) = true := beq_iff_eq.mpr c15
            have c15b1 : (a1_0 != a1_1) = false := bne_eq_false_iff_eq.mpr c15
            clear c15
            obtain rfl := Option.some.inj H
            go_enter Try.func43, Try.ntmps43
            go_wp2_with (first | ((with_reducible refine gate_dst (N := 3) rfl ?_); refine box_event ?hg (N := 3) ?hd (cs := #[.int .i64 a1_0, .int .i64 a1_1, .int .i64 a1_2, .int .i64 a1_3]) (t := 32) ?hr ?_; (case hd => rfl); (case hg => rfl); (case hr => exact qq16); intro gb203 hg w16 hbox hb; have n0_ := Aside0.mk (below_step qq1 hb); have n1_ := Aside0.mk (hbox); have n2_ := Aside0.mk ((qq33 : w.heap.size ≤ gb203)); have n3_ := Aside0.mk ((qq33 : w.heap.size ≤ gb203)); clear HB; have HB := n0_; have BK203 := n1_; have GW203 := n2_; have GE203 := n3_; clear n0_ n1_ n2_ n3_; clear hb hbox hg; have hcz17_0 : w16.cell? ⟨gb203, 0, none⟩ = some (.int .i64 a1_0) := (blk_cell BK203.out 0).trans rfl; have hcz17_1 : w16.cell? ⟨gb203, 1, none⟩ = some (.int .i64 a1_1) := (blk_cell BK203.out 1).trans rfl; have hcz17_2 : w16.cell? ⟨gb203, 2, none⟩ = some (.int .i64 a1_2) := (blk_cell BK203.out 2).trans rfl; have hcz17_3 : w16.cell? ⟨gb203, 3, none⟩ = some (.int .i64 a1_3) := (blk_cell BK203.out 3).trans rfl; have hfz17_0 := blk_frozen BK203.out 0; have hfz17_1 := blk_frozen BK203.out 1; have hfz17_2 := blk_frozen BK203.out 2; have hfz17_3 := blk_frozen BK203.out 3))
            go_ret
            exact ⟨qq11, qq4 HB.out GE203.out⟩
          · rw [if_neg c15] at H
            have c15b0 : (a1_0 == a1_1) = false := beq_eq_false_iff_ne.mpr c15
            have c15b1 : (a1_0 != a1_1) = true := bne_iff_ne.mpr c15
            replace H := Option.bind_eq_some_iff.mp H
            obtain ⟨t204, A180, H⟩ := H
            replace H : (if t204 = true then (if a1_3 ≥ 1 then (some (decide (a1_3 ≤ 9))) else (some false)) else (some false)) = some r := H
            have A18 := Aside0.mk A180
            clear A180
            by_cases c19 : t204 = true
            · subst c19
              have H1 : (if a1_3 ≥ 1 then (some (decide (a1_3 ≤ 9))) else (some false)) = some r := by rw [if_pos rfl] at H; exact H
              clear H
              have H := H1
              clear H1
              by_cases c20 : a1_3 ≥ 1
              · rw [if_pos c20] at H
                have c20b0 : decide (1 ≤ a1_3) = true := decide_eq_true c20
                clear c20
                obtain rfl := Option.some.inj H
                go_enter Try.func43, Try.ntmps43
                go_wp2_with (first | ((with_reducible refine gate_dst (N := 3) rfl ?_); refine box_event ?hg (N := 3) ?hd (cs := #[.int .i64 a1_0, .int .i64 a1_1, .int .i64 a1_2, .int .i64 a1_3]) (t := 32) ?hr ?_; (case hd => rfl); (case hg => rfl); (case hr => exact qq16); intro gb203 hg w21 hbox hb; have n0_ := Aside0.mk (below_step qq1 hb); have n1_ := Aside0.mk (hbox); have n2_ := Aside0.mk ((qq33 : w.heap.size ≤ gb203)); have n3_ := Aside0.mk ((qq33 : w.heap.size ≤ gb203)); clear HB; have HB := n0_; have BK203 := n1_; have GW203 := n2_; have GE203 := n3_; clear n0_ n1_ n2_ n3_; clear hb hbox hg; have hcz22_0 : w21.cell? ⟨gb203, 0, none⟩ = some (.int .i64 a1_0) := (blk_cell BK203.out 0).trans rfl; have hcz22_1 : w21.cell? ⟨gb203, 1, none⟩ = some (.int .i64 a1_1) := (blk_cell BK203.out 1).trans rfl; have hcz22_2 : w21.cell? ⟨gb203, 2, none⟩ = some (.int .i64 a1_2) := (blk_cell BK203.out 2).trans rfl; have hcz22_3 : w21.cell? ⟨gb203, 3, none⟩ = some (.int .i64 a1_3) := (blk_cell BK203.out 3).trans rfl; have hfz22_0 := blk_frozen BK203.out 0; have hfz22_1 := blk_frozen BK203.out 1; have hfz22_2 := blk_frozen BK203.out 2; have hfz22_3 := blk_frozen BK203.out 3) | ((with_reducible refine gate_callee (f := 37) rfl ?_); refine goesL_ (some 34) rfl rfl Try.func37 (by kernel_rfl) rfl #[.int .i64 a1_2, .int .i64 100000] rfl qq5 ?_; (with_reducible refine (impl_within.calls a1_2 100000 true _ A18.out).mono ?_); rintro e w' ⟨rfl, ⟨nd, rfl⟩⟩; refine ⟨_, rfl, ?_⟩))
                go_ret
                exact ⟨qq11, qq4 HB.out GE203.out⟩
              · rw [if_neg c20] at H
                have c20b0 : decide (1 ≤ a1_3) = false := decide_eq_false c20
                clear c20
                obtain rfl := Option.some.inj H
                go_enter Try.func43, Try.ntmps43
                go_wp2_with (first | ((with_reducible refine gate_dst (N := 3) rfl ?_); refine box_event ?hg (N := 3) ?hd (cs := #[.int .i64 a1_0, .int .i64 a1_1, .int .i64 a1_2, .int .i64 a1_3]) (t := 32) ?hr ?_; (case hd => rfl); (case hg => rfl); (case hr => exact qq16); intro gb203 hg w23 hbox hb; have n0_ := Aside0.mk (below_step qq1 hb); have n1_ := Aside0.mk (hbox); have n2_ := Aside0.mk ((qq33 : w.heap.size ≤ gb203)); have n3_ := Aside0.mk ((qq33 : w.heap.size ≤ gb203)); clear HB; have HB := n0_; have BK203 := n1_; have GW203 := n2_; have GE203 := n3_; clear n0_ n1_ n2_ n3_; clear hb hbox hg; have hcz24_0 : w23.cell? ⟨gb203, 0, none⟩ = some (.int .i64 a1_0) := (blk_cell BK203.out 0).trans rfl; have hcz24_1 : w23.cell? ⟨gb203, 1, none⟩ = some (.int .i64 a1_1) := (blk_cell BK203.out 1).trans rfl; have hcz24_2 : w23.cell? ⟨gb203, 2, none⟩ = some (.int .i64 a1_2) := (blk_cell BK203.out 2).trans rfl; have hcz24_3 : w23.cell? ⟨gb203, 3, none⟩ = some (.int .i64 a1_3) := (blk_cell BK203.out 3).trans rfl; have hfz24_0 := blk_frozen BK203.out 0; have hfz24_1 := blk_frozen BK203.out 1; have hfz24_2 := blk_frozen BK203.out 2; have hfz24_3 := blk_frozen BK203.out 3) | ((with_reducible refine gate_callee (f := 37) rfl ?_); refine goesL_ (some 34) rfl rfl Try.func37 (by kernel_rfl) rfl #[.int .i64 a1_2, .int .i64 100000] rfl qq5 ?_; (with_reducible refine (impl_within.calls a1_2 100000 true _ A18.out).mono ?_); rintro e w' ⟨rfl, ⟨nd, rfl⟩⟩; refine ⟨_, rfl, ?_⟩))
                go_ret
                exact ⟨qq11, qq4 HB.out GE203.out⟩
            · replace c19 := Bool.eq_false_iff.mpr c19
              subst c19
              have H1 : (some false) = some r := by rw [if_neg (show ¬ (false = true) by decide)] at H; exact H
              clear H
              have H := H1
              clear H1
              obtain rfl := Option.some.inj H
              go_enter Try.func43, Try.ntmps43
              go_wp2_with (first | ((with_reducible refine gate_dst (N := 3) rfl ?_); refine box_event ?hg (N := 3) ?hd (cs := #[.int .i64 a1_0, .int .i64 a1_1, .int .i64 a1_2, .int .i64 a1_3]) (t := 32) ?hr ?_; (case hd => rfl); (case hg => rfl); (case hr => exact qq16); intro gb203 hg w25 hbox hb; have n0_ := Aside0.mk (below_step qq1 hb); have n1_ := Aside0.mk (hbox); have n2_ := Aside0.mk ((qq33 : w.heap.size ≤ gb203)); have n3_ := Aside0.mk ((qq33 : w.heap.size ≤ gb203)); clear HB; have HB := n0_; have BK203 := n1_; have GW203 := n2_; have GE203 := n3_; clear n0_ n1_ n2_ n3_; clear hb hbox hg; have hcz26_0 : w25.cell? ⟨gb203, 0, none⟩ = some (.int .i64 a1_0) := (blk_cell BK203.out 0).trans rfl; have hcz26_1 : w25.cell? ⟨gb203, 1, none⟩ = some (.int .i64 a1_1) := (blk_cell BK203.out 1).trans rfl; have hcz26_2 : w25.cell? ⟨gb203, 2, none⟩ = some (.int .i64 a1_2) := (blk_cell BK203.out 2).trans rfl; have hcz26_3 : w25.cell? ⟨gb203, 3, none⟩ = some (.int .i64 a1_3) := (blk_cell BK203.out 3).trans rfl; have hfz26_0 := blk_frozen BK203.out 0; have hfz26_1 := blk_frozen BK203.out 1; have hfz26_2 := blk_frozen BK203.out 2; have hfz26_3 := blk_frozen BK203.out 3) | ((with_reducible refine gate_callee (f := 37) rfl ?_); refine goesL_ (some 34) rfl rfl Try.func37 (by kernel_rfl) rfl #[.int .i64 a1_2, .int .i64 100000] rfl qq5 ?_; (with_reducible refine (impl_within.calls a1_2 100000 false _ A18.out).mono ?_); rintro e w' ⟨rfl, ⟨nd, rfl⟩⟩; refine ⟨_, rfl, ?_⟩))
              go_ret
              exact ⟨qq11, qq4 HB.out GE203.out⟩

end Go.Proofs.Ytmcfhmflncghiaa.Q
namespace Go.Proofs.Ytmcfhmflncghiaa.Q
open Go.RowKit Go.Proofs.YtmcfhmflncghiaaW.PrintWords Go.Proofs.YtmcfhmflncghiaaW.PrintLast Go.Proofs.YtmcfhmflncghiaaW.PrintMore
attribute [local go_sem] max2_int min2_int max_two min_two max_three min_three max_four min_four
set_option linter.unusedVariables false
set_option linter.unusedSimpArgs false

/-! ### impl_NetValid: function 23 -/
mutual
def impl_NetValid.j0 : Nat → Int → List (S32) → Bool → Option (Bool)
  | 0, _, _, _ => none
  | k + 1, x0, x1, x17 => if x17 = true then (some false) else (impl_NetValid.l0 k x0 x1 (x1.length : Int) 0)
def impl_NetValid.l0 : Nat → Int → List (S32) → Int → Int → Option (Bool)
  | 0, _, _, _, _ => none
  | k + 1, x0, x18, x19, x20 => if x20 < x19 then (if 0 ≤ x20 then (if x20 < (x18.length : Int) then ((impl_runValid.f x0 ((rd_T32 x18 x20).f0) ((rd_T32 x18 x20).f1) ((rd_T32 x18 x20).f2) ((rd_T32 x18 x20).f3)).bind fun t207 => (if t207 = true then (impl_NetValid.l0 k x0 x18 x19 (wrap64 (x20 + 1))) else (some false))) else (none)) else (none)) else (some true)
end
def impl_NetValid.f (k : Nat) (a0 : Int) (l1 : List (S32)) : Option (Bool) := if a0 < 2 then (impl_NetValid.j0 k a0 l1 true) else (if a0 > 6 then (impl_NetValid.j0 k a0 l1 true) else (impl_NetValid.j0 k a0 l1 (decide ((l1.length : Int) > 12))))
set_option maxHeartbeats 8000000 in
set_option maxRecDepth 100000 in
theorem impl_NetValid.calls (k : Nat) (a0 : Int) (A1 : Option Addr) (c1 : Nat) (l1 : List (S32)) (r : Bool) (w : World) (hr1 : Kd.C k32 w A1 l1.length l1) (hc1 : l1.length ≤ c1) (h : impl_NetValid.f k a0 l1 = some r) :
    Calls Try.prog 23 #[.int .i64 a0, .slice A1 l1.length c1] w fun e w' => e = .returned (.bool r) ∧ Below w.heap.size w w' := by
  have hu32 := Try.underlying32
  have HR1 := Aside0.mk hr1
  have HC1 := Aside0.mk hc1
  clear hr1 hc1
  have HB := Aside0.mk (Below.refl w.heap.size w)
  have H : (if a0 < 2 then (impl_NetValid.j0 k a0 l1 true) else (if a0 > 6 then (impl_NetValid.j0 k a0 l1 true) else (impl_NetValid.j0 k a0 l1 (decide ((l1.length : Int) > 12))))) = some r := h
  clear h
  have HC3 := Aside0.mk H
  clear H
  go_enter Try.func23, Try.ntmps23
  go_upto_region 1 with (fail)
  go_cut [17] (fun v17 wc => ∃ (kq : Nat) (x17_2 : Bool), v17 = .bool x17_2 ∧ Aside0 (impl_NetValid.j0 kq a0 l1 x17_2 = some r) ∧ Aside0 (kq ≤ k) ∧ Aside0 (Below w.heap.size w wc))
  case first =>
    have H := HC3.out
    clear HC3
    by_cases c4 : a0 < 2
    · rw [if_pos c4] at H
      have c4b0 : decide (a0 < 2) = true := decide_eq_true c4
      clear c4
      (first | rw [c4b0] | (simp only [i64_w, i32_w]; rw [c4b0]) | skip)
      have H' := Aside0.mk H
      clear H
      go_wp2
      go_meet
      case rel => exact ⟨_, (true), qq13, H', ⟨qq37⟩, ⟨qq1⟩⟩
    · rw [if_neg c4] at H
      have c4b0 : decide (a0 < 2) = false := decide_eq_false c4
      clear c4
      (first | rw [c4b0] | (simp only [i64_w, i32_w]; rw [c4b0]) | skip)
      by_cases c5 : a0 > 6
      · rw [if_pos c5] at H
        have c5b0 : decide (6 < a0) = true := decide_eq_true c5
        clear c5
        have H' := Aside0.mk H
        clear H
        go_wp2
        go_meet
        case rel => exact ⟨_, (true), qq13, H', ⟨qq37⟩, ⟨qq1⟩⟩
      · rw [if_neg c5] at H
        have c5b0 : decide (6 < a0) = false := decide_eq_false c5
        clear c5
        have H' := Aside0.mk H
        clear H
        go_wp2
        go_meet
        case rel => exact ⟨_, (decide ((l1.length : Int) > 12)), qq13, H', ⟨qq37⟩, ⟨qq1⟩⟩
  case rest =>
    clear HC3
    try clear c1
    try clear c2
    try clear p2
    try clear c4
    try clear c4b0
    try clear c5
    try clear c5b0
    obtain ⟨kq, x17_2, rfl, HA, HJ2, HB⟩ := hcut
    cases kq with
    | zero => exact absurd HA.out (by simp [impl_NetValid.j0])
    | succ kj2 =>
      have H := HA.out
      clear HA
      simp only [impl_NetValid.j0] at H
      by_cases c6 : x17_2 = true
      · subst c6
        have H1 : (some false) = some r := by rw [if_pos rfl] at H; exact H
        clear H
        have H := H1
        clear H1
        obtain rfl := Option.some.inj H
        go_wp2
        go_ret
        exact ⟨qq11, qq1⟩
      · replace c6 := Bool.eq_false_iff.mpr c6
        subst c6
        have H1 : (impl_NetValid.l0 kj2 a0 l1 (l1.length : Int) 0) = some r := by rw [if_neg (show ¬ (false = true) by decide)] at H; exact H
        clear H
        have H := H1
        clear H1
        have H' := Aside0.mk H
        clear H
        go_wp2
        go_loopg [20] kj2 (fun kq v20 w' => ∃ (x20_2 : Int), v20 = .int .i64 x20_2 ∧ Aside0 (impl_NetValid.l0 kq a0 l1 (l1.length : Int) x20_2 = some r) ∧ Aside0 (kq ≤ kj2) ∧ Aside0 (Below w.heap.size w w'))
        case atStart => exact ⟨(0), qq13, H', ⟨Nat.le_refl _⟩, ⟨qq1⟩⟩
        case round =>
          clear H'
          try clear c1
          try clear c2
          try clear p2
          try clear c4
          try clear c4b0
          try clear c5
          try clear c5b0
          try clear c6
          try clear p2
          obtain ⟨x20_2, rfl, HA, HK2, HB⟩ := hrel
          cases gk with
          | zero => exact absurd HA.out (by simp [impl_NetValid.l0])
          | succ k2 =>
            have H := HA.out
            clear HA
            simp only [impl_NetValid.l0] at H
            by_cases c7 : x20_2 < (l1.length : Int)
            · rw [if_pos c7] at H
              have c7b0 : decide (x20_2 < (l1.length : Int)) = true := decide_eq_true c7
              clear c7
              by_cases c8 : 0 ≤ x20_2
              · rw [if_pos c8] at H
                have c8b0 : decide (0 ≤ x20_2) = true := decide_eq_true c8
                clear c8
                by_cases c9 : x20_2 < (l1.length : Int)
                · rw [if_pos c9] at H
                  have c9b0 : decide (x20_2 < (l1.length : Int)) = true := decide_eq_true c9
                  clear c9
                  replace H := Option.bind_eq_some_iff.mp H
                  obtain ⟨t207, A100, H⟩ := H
                  replace H : (if t207 = true then (impl_NetValid.l0 k2 a0 l1 (l1.length : Int) (wrap64 (x20_2 + 1))) else (some false)) = some r := H
                  have A10 := Aside0.mk A100
                  clear A100
                  by_cases c11 : t207 = true
                  · subst c11
                    have H1 : (impl_NetValid.l0 k2 a0 l1 (l1.length : Int) (wrap64 (x20_2 + 1))) = some r := by rw [if_pos rfl] at H; exact H
                    clear H
                    have H := H1
                    clear H1
                    have H' := Aside0.mk H
                    clear H
                    have p205 : 0 ≤ (x20_2 : Int) := of_decide_eq_true qq3
                    have q205 : x20_2 < (l1.length : Int) := of_decide_eq_true qq3
                    obtain ⟨ad205, e205, hx205_0, hx205_1, hx205_2, hx205_3⟩ := at_T32 HR1.out x20_2 p205 q205
                    cases e205
                    replace hx205_0 := (HB.out.cell (World.block_lt_of_cell? w _ hx205_0)).trans hx205_0
                    replace hx205_1 := (HB.out.cell (World.block_lt_of_cell? w _ hx205_1)).trans hx205_1
                    replace hx205_2 := (HB.out.cell (World.block_lt_of_cell? w _ hx205_2)).trans hx205_2
                    replace hx205_3 := (HB.out.cell (World.block_lt_of_cell? w _ hx205_3)).trans hx205_3
                    replace p205 := eq_true p205
                    replace q205 := eq_true q205
                    go_wp2_with (first | ((with_reducible refine gate_dst (N := 6) rfl ?_); (try (refine gate_guard (by rfl) ?_; dsimp only)); refine box_event ?hg (N := 6) ?hd (cs := #[.int .i64 0, .int .i64 0, .int .i64 0, .int .i64 0]) (t := 32) ?hr ?_; (case hd => rfl); (case hg => rfl); (case hr => exact qq16); intro gb206 hg w12 hbox hb; have n0_ := Aside0.mk (below_step qq1 hb); have n1_ := Aside0.mk (hbox); have n2_ := Aside0.mk ((qq33 : w.heap.size ≤ gb206)); have n3_ := Aside0.mk ((qq33 : w.heap.size ≤ gb206)); clear HB; have HB := n0_; have BK206 := n1_; have GW206 := n2_; have GE206 := n3_; clear n0_ n1_ n2_ n3_; clear hb hbox hg; have hcz13_0 : w12.cell? ⟨gb206, 0, none⟩ = some (.int .i64 0) := (blk_cell BK206.out 0).trans rfl; have hcz13_1 : w12.cell? ⟨gb206, 1, none⟩ = some (.int .i64 0) := (blk_cell BK206.out 1).trans rfl; have hcz13_2 : w12.cell? ⟨gb206, 2, none⟩ = some (.int .i64 0) := (blk_cell BK206.out 2).trans rfl; have hcz13_3 : w12.cell? ⟨gb206, 3, none⟩ = some (.int .i64 0) := (blk_cell BK206.out 3).trans rfl; have hfz13_0 := blk_frozen BK206.out 0; have hfz13_1 := blk_frozen BK206.out 1; have hfz13_2 := blk_frozen BK206.out 2; have hfz13_3 := blk_frozen BK206.out 3) | ((with_reducible refine gate_callee (f := 43) rfl ?_); refine goesL_ (some 26) rfl rfl Try.func43 (by kernel_rfl) rfl #[.int .i64 a0, .agg #[.int .i64 ((rd_T32 l1 x20_2).f0), .int .i64 ((rd_T32 l1 x20_2).f1), .int .i64 ((rd_T32 l1 x20_2).f2), .int .i64 ((rd_T32 l1 x20_2).f3)]] rfl qq5 ?_; (with_reducible refine (impl_runValid.calls a0 ((rd_T32 l1 x20_2).f0) ((rd_T32 l1 x20_2).f1) ((rd_T32 l1 x20_2).f2) ((rd_T32 l1 x20_2).f3) true _ A10.out).mono ?_); rintro e w14 ⟨rfl, hb⟩; refine ⟨_, rfl, ?_⟩; have n0_ := Aside0.mk (blk_below (g := gb206) (o := .cells #[.int .i64 ((rd_T32 l1 x20_2).f0), .int .i64 ((rd_T32 l1 x20_2).f1), .int .i64 ((rd_T32 l1 x20_2).f2), .int .i64 ((rd_T32 l1 x20_2).f3)] 32 (0, 0)) qq31 hb); have n1_ := Aside0.mk (below_step (qq4 HB.out GE206.out) hb); clear BK206; clear HB; have BK206 := n0_; have HB := n1_; clear n0_ n1_; (try clear hb); (try clear hb2); (try clear hk); (try clear hi)))
                    go_roundg k2
                    case measure => have := HJ2.out; have := HK2.out; omega
                    case rel => exact ⟨(wrap64 (x20_2 + 1)), qq13, H', ⟨qq76 HJ2.out HK2.out⟩, ⟨qq4 HB.out GE206.out⟩⟩
                  · replace c11 := Bool.eq_false_iff.mpr c11
                    subst c11
                    have H1 : (some false) = some r := by rw [if_neg (show ¬ (false = true) by decide)] at H; exact H
                    clear H
                    have H := H1
                    clear H1
                    obtain rfl := Option.some.inj H
                    have p205 : 0 ≤ (x20_2 : Int) := of_decide_eq_true qq3
                    have q205 : x20_2 < (l1.length : Int) := of_decide_eq_true qq3
                    obtain ⟨ad205, e205, hx205_0, hx205_1, hx205_2, hx205_3⟩ := at_T32 HR1.out x20_2 p205 q205
                    cases e205
                    replace hx205_0 := (HB.out.cell (World.block_lt_of_cell? w _ hx205_0)).trans hx205_0
                    replace hx205_1 := (HB.out.cell (World.block_lt_of_cell? w _ hx205_1)).trans hx205_1
                    replace hx205_2 := (HB.out.cell (World.block_lt_of_cell? w _ hx205_2)).trans hx205_2
                    replace hx205_3 := (HB.out.cell (World.block_lt_of_cell? w _ hx205_3)).trans hx205_3
                    replace p205 := eq_true p205
                    replace q205 := eq_true q205
                    go_wp2_with (first | ((with_reducible refine gate_dst (N := 6) rfl ?_); (try (refine gate_guard (by rfl) ?_; dsimp only)); refine box_event ?hg (N := 6) ?hd (cs := #[.int .i64 0, .int .i64 0, .int .i64 0, .int .i64 0]) (t := 32) ?hr ?_; (case hd => rfl); (case hg => rfl); (case hr => exact qq16); intro gb206 hg w15 hbox hb; have n0_ := Aside0.mk (below_step qq1 hb); have n1_ := Aside0.mk (hbox); have n2_ := Aside0.mk ((qq33 : w.heap.size ≤ gb206)); have n3_ := Aside0.mk ((qq33 : w.heap.size ≤ gb206)); clear HB; have HB := n0_; have BK206 := n1_; have GW206 := n2_; have GE206 := n3_; clear n0_ n1_ n2_ n3_; clear hb hbox hg; have hcz16_0 : w15.cell? ⟨gb206, 0, none⟩ = some (.int .i64 0) := (blk_cell BK206.out 0).trans rfl; have hcz16_1 : w15.cell? ⟨gb206, 1, none⟩ = some (.int .i64 0) := (blk_cell BK206.out 1).trans rfl; have hcz16_2 : w15.cell? ⟨gb206, 2, none⟩ = some (.int .i64 0) := (blk_cell BK206.out 2).trans rfl; have hcz16_3 : w15.cell? ⟨gb206, 3, none⟩ = some (.int .i64 0) := (blk_cell BK206.out 3).trans rfl; have hfz16_0 := blk_frozen BK206.out 0; have hfz16_1 := blk_frozen BK206.out 1; have hfz16_2 := blk_frozen BK206.out 2; have hfz16_3 := blk_frozen BK206.out 3) | ((with_reducible refine gate_callee (f := 43) rfl ?_); refine goesL_ (some 26) rfl rfl Try.func43 (by kernel_rfl) rfl #[.int .i64 a0, .agg #[.int .i64 ((rd_T32 l1 x20_2).f0), .int .i64 ((rd_T32 l1 x20_2).f1), .int .i64 ((rd_T32 l1 x20_2).f2), .int .i64 ((rd_T32 l1 x20_2).f3)]] rfl qq5 ?_; (with_reducible refine (impl_runValid.calls a0 ((rd_T32 l1 x20_2).f0) ((rd_T32 l1 x20_2).f1) ((rd_T32 l1 x20_2).f2) ((rd_T32 l1 x20_2).f3) false _ A10.out).mono ?_); rintro e w17 ⟨rfl, hb⟩; refine ⟨_, rfl, ?_⟩; have n0_ := Aside0.mk (blk_below (g := gb206) (o := .cells #[.int .i64 ((rd_T32 l1 x20_2).f0), .int .i64 ((rd_T32 l1 x20_2).f1), .int .i64 ((rd_T32 l1 x20_2).f2), .int .i64 ((rd_T32 l1 x20_2).f3)] 32 (0, 0)) qq31 hb); have n1_ := Aside0.mk (below_step (qq4 HB.out GE206.out) hb); clear BK206; clear HB; have BK206 := n0_; have HB := n1_; clear n0_ n1_; (try clear hb); (try clear hb2); (try clear hk); (try clear hi)))
                    go_ret
                    exact ⟨qq11, qq4 HB.out GE206.out⟩
                · rw [if_neg c9] at H
                  exact absurd H (by simp)
              · rw [if_neg c8] at H
                exact absurd H (by simp)
            · rw [if_neg c7] at H
              have c7b0 : decide (x20_2 < (l1.length : Int)) = false := decide_eq_false c7
              clear c7
              obtain rfl := Option.some.inj H
              go_wp2
              go_ret
              exact ⟨qq11, qq1⟩

end Go.Proofs.Ytmcfhmflncghiaa.Q
namespace Go.Proofs.Ytmcfhmflncghiaa.Q
open Go.RowKit Go.Proofs.YtmcfhmflncghiaaW.PrintWords Go.Proofs.YtmcfhmflncghiaaW.PrintLast Go.Proofs.YtmcfhmflncghiaaW.PrintMore
attribute [local go_sem] max2_int min2_int max_two min_two max_three min_three max_four min_four
set_option linter.unusedVariables false
set_option linter.unusedSimpArgs false

/-! ### spec_NetValid: function 45 -/
mutual
def spec_NetValid.j0 : Nat → Int → List (S32) → Bool → Option (Bool)
  | 0, _, _, _ => none
  | k + 1, x0, x1, x14 => if x14 = true then (some false) else (spec_NetValid.l0 k x0 x1 0)
def spec_NetValid.l0 : Nat → Int → List (S32) → Int → Option (Bool)
  | 0, _, _, _ => none
  | k + 1, x0, x1, x5 => if x5 < (x1.length : Int) then (if 0 ≤ x5 then ((spec_l6In.f ((rd_T32 x1 x5).f0) 0 (wrap64 (x0 - 1))).bind fun t161 => (if t161 = true then ((spec_l6In.f ((rd_T32 x1 x5).f1) 0 (wrap64 (x0 - 1))).bind fun t162 => (if t162 = true then (spec_NetValid.j2 k x0 x1 x5 (((rd_T32 x1 x5).f0) == ((rd_T32 x1 x5).f1)) ((rd_T32 x1 x5).f0) ((rd_T32 x1 x5).f1) ((rd_T32 x1 x5).f2) ((rd_T32 x1 x5).f3)) else (spec_NetValid.j2 k x0 x1 x5 true ((rd_T32 x1 x5).f0) ((rd_T32 x1 x5).f1) ((rd_T32 x1 x5).f2) ((rd_T32 x1 x5).f3)))) else (spec_NetValid.j2 k x0 x1 x5 true ((rd_T32 x1 x5).f0) ((rd_T32 x1 x5).f1) ((rd_T32 x1 x5).f2) ((rd_T32 x1 x5).f3)))) else (none)) else (some true)
def spec_NetValid.j2 : Nat → Int → List (S32) → Int → Bool → Int → Int → Int → Int → Option (Bool)
  | 0, _, _, _, _, _, _, _, _ => none
  | k + 1, x0, x1, x5, x45, x161000, x161001, x161002, x161003 => if x45 = true then (some false) else ((spec_l6In.f x161002 (-100000) 100000).bind fun t163 => (if t163 = true then ((spec_l6In.f x161003 1 9).bind fun t164 => (if t164 = true then (spec_NetValid.l0 k x0 x1 (wrap64 (x5 + 1))) else (some false))) else (some false)))
end
def spec_NetValid.f (k : Nat) (a0 : Int) (l1 : List (S32)) : Option (Bool) := (spec_l6In.f a0 2 6).bind fun t158 => (if t158 = true then (spec_NetValid.j0 k a0 l1 (decide ((l1.length : Int) > 12))) else (spec_NetValid.j0 k a0 l1 true))
set_option maxHeartbeats 8000000 in
set_option maxRecDepth 100000 in
theorem spec_NetValid.calls (k : Nat) (a0 : Int) (A1 : Option Addr) (c1 : Nat) (l1 : List (S32)) (r : Bool) (w : World) (hr1 : Kd.C k32 w A1 l1.length l1) (hc1 : l1.length ≤ c1) (h : spec_NetValid.f k a0 l1 = some r) :
    Calls Try.prog 45 #[.int .i64 a0, .slice A1 l1.length c1] w fun e w' => e = .returned (.bool r) ∧ Below w.heap.size w w' := by
  have hu32 := Try.underlying32
  have HR1 := Aside0.mk hr1
  have HC1 := Aside0.mk hc1
  clear hr1 hc1
  have HB := Aside0.mk (Below.refl w.heap.size w)
  have H : ((spec_l6In.f a0 2 6).bind fun t158 => (if t158 = true then (spec_NetValid.j0 k a0 l1 (decide ((l1.length : Int) > 12))) else (spec_NetValid.j0 k a0 l1 true))) = some r := h
  clear h
  have HC3 := Aside0.mk H
  clear H
  go_enter Try.func45, Try.ntmps45
  go_upto_region 1 with (fail)
  go_cut [14] (fun v14 wc => ∃ (kq : Nat) (x14_2 : Bool), v14 = .bool x14_2 ∧ Aside0 (spec_NetValid.j0 kq a0 l1 x14_2 = some r) ∧ Aside0 (kq ≤ k) ∧ Aside0 (Below w.heap.size w wc))
  case first =>
    have H := HC3.out
    clear HC3
    replace H := Option.bind_eq_some_iff.mp H
    obtain ⟨t158, A40, H⟩ := H
    replace H : (if t158 = true then (spec_NetValid.j0 k a0 l1 (decide ((l1.length : Int) > 12))) else (spec_NetValid.j0 k a0 l1 true)) = some r := H
    have A4 := Aside0.mk A40
    clear A40
    by_cases c5 : t158 = true
    · subst c5
      have H1 : (spec_NetValid.j0 k a0 l1 (decide ((l1.length : Int) > 12))) = some r := by rw [if_pos rfl] at H; exact H
      clear H
      have H := H1
      clear H1
      have H' := Aside0.mk H
      clear H
      go_wp2_with (first | ((with_reducible refine gate_callee (f := 40) rfl ?_); refine goesL_ (some 8) rfl rfl Try.func40 (by kernel_rfl) rfl #[.int .i64 a0, .int .i64 2, .int .i64 6] rfl qq5 ?_; (with_reducible refine (spec_l6In.calls a0 2 6 true _ A4.out).mono ?_); rintro e w' ⟨rfl, ⟨nd, rfl⟩⟩; refine ⟨_, rfl, ?_⟩))
      go_meet
      case rel => exact ⟨_, (decide ((l1.length : Int) > 12)), qq13, H', ⟨qq37⟩, ⟨qq1⟩⟩
    · replace c5 := Bool.eq_false_iff.mpr c5
      subst c5
      have H1 : (spec_NetValid.j0 k a0 l1 true) = some r := by rw [if_neg (show ¬ (false = true) by decide)] at H; exact H
      clear H
      have H := H1
      clear H1
      have H' := Aside0.mk H
      clear H
      go_wp2_with (first | ((with_reducible refine gate_callee (f := 40) rfl ?_); refine goesL_ (some 8) rfl rfl Try.func40 (by kernel_rfl) rfl #[.int .i64 a0, .int .i64 2, .int .i64 6] rfl qq5 ?_; (with_reducible refine (spec_l6In.calls a0 2 6 false _ A4.out).mono ?_); rintro e w' ⟨rfl, ⟨nd, rfl⟩⟩; refine ⟨_, rfl, ?_⟩))
      go_meet
      case rel => exact ⟨_, (true), qq13, H', ⟨qq37⟩, ⟨qq1⟩⟩
  case rest =>
    clear HC3
    try clear c1
    try clear p2
    try clear c4
    try clear c5
    obtain ⟨kq, x14_2, rfl, HA, HJ2, HB⟩ := hcut
    cases kq with
    | zero => exact absurd HA.out (by simp [spec_NetValid.j0])
    | succ kj2 =>
      have H := HA.out
      clear HA
      simp only [spec_NetValid.j0] at H
      by_cases c6 : x14_2 = true
      · subst c6
        have H1 : (some false) = some r := by rw [if_pos rfl] at H; exact H
        clear H
        have H := H1
        clear H1
        obtain rfl := Option.some.inj H
        go_wp2
        go_ret
        exact ⟨qq11, qq1⟩
      · replace c6 := Bool.eq_false_iff.mpr c6
        subst c6
        have H1 : (spec_NetValid.l0 kj2 a0 l1 0) = some r := by rw [if_neg (show ¬ (false = true) by decide)] at H; exact H
        clear H
        have H := H1
        clear H1
        have H' := Aside0.mk H
        clear H
        go_wp2
        go_loopg [5] kj2 (fun kq v5 w' => ∃ (x5_2 : Int), v5 = .int .i64 x5_2 ∧ Aside0 (spec_NetValid.l0 kq a0 l1 x5_2 = some r) ∧ Aside0 (kq ≤ kj2) ∧ Aside0 (Below w.heap.size w w'))
        case atStart => exact ⟨(0), qq13, H', ⟨Nat.le_refl _⟩, ⟨qq1⟩⟩
        case round =>
          clear H'
          try clear c1
          try clear p2
          try clear c4
          try clear c5
          try clear c6
          try clear p2
          obtain ⟨x5_2, rfl, HA, HK2, HB⟩ := hrel
          cases gk with
          | zero => exact absurd HA.out (by simp [spec_NetValid.l0])
          | succ k2 =>
            have H := HA.out
            clear HA
            simp only [spec_NetValid.l0] at H
            by_cases c7 : x5_2 < (l1.length : Int)
            · rw [if_pos c7] at H
              have c7b0 : decide (x5_2 < (l1.length : Int)) = true := decide_eq_true c7
              clear c7
              by_cases c8 : 0 ≤ x5_2
              · rw [if_pos c8] at H
                have c8b0 : decide (0 ≤ x5_2) = true := decide_eq_true c8
                clear c8
                have HC9 := Aside0.mk H
                clear H
                have p159 : 0 ≤ (x5_2 : Int) := of_decide_eq_true qq3
                have q159 : x5_2 < (l1.length : Int) := of_decide_eq_true qq3
                obtain ⟨ad159, e159, hx159_0, hx159_1, hx159_2, hx159_3⟩ := at_T32 HR1.out x5_2 p159 q159
                cases e159
                replace hx159_0 := (HB.out.cell (World.block_lt_of_cell? w _ hx159_0)).trans hx159_0
                replace hx159_1 := (HB.out.cell (World.block_lt_of_cell? w _ hx159_1)).trans hx159_1
                replace hx159_2 := (HB.out.cell (World.block_lt_of_cell? w _ hx159_2)).trans hx159_2
                replace hx159_3 := (HB.out.cell (World.block_lt_of_cell? w _ hx159_3)).trans hx159_3
                replace p159 := eq_true p159
                replace q159 := eq_true q159
                go_upto_region 7 with (first | ((with_reducible refine gate_dst (N := 6) rfl ?_); (try (refine gate_guard (by rfl) ?_; dsimp only)); refine box_event ?hg (N := 6) ?hd (cs := #[.int .i64 0, .int .i64 0, .int .i64 0, .int .i64 0]) (t := 32) ?hr ?_; (case hd => rfl); (case hg => rfl); (case hr => exact qq16); intro gb160 hg w10 hbox hb; have n0_ := Aside0.mk (below_step qq1 hb); have n1_ := Aside0.mk (hbox); have n2_ := Aside0.mk ((qq33 : w.heap.size ≤ gb160)); have n3_ := Aside0.mk ((qq33 : w.heap.size ≤ gb160)); clear HB; have HB := n0_; have BK160 := n1_; have GW160 := n2_; have GE160 := n3_; clear n0_ n1_ n2_ n3_; clear hb hbox hg; have hcz11_0 : w10.cell? ⟨gb160, 0, none⟩ = some (.int .i64 0) := (blk_cell BK160.out 0).trans rfl; have hcz11_1 : w10.cell? ⟨gb160, 1, none⟩ = some (.int .i64 0) := (blk_cell BK160.out 1).trans rfl; have hcz11_2 : w10.cell? ⟨gb160, 2, none⟩ = some (.int .i64 0) := (blk_cell BK160.out 2).trans rfl; have hcz11_3 : w10.cell? ⟨gb160, 3, none⟩ = some (.int .i64 0) := (blk_cell BK160.out 3).trans rfl; have hfz11_0 := blk_frozen BK160.out 0; have hfz11_1 := blk_frozen BK160.out 1; have hfz11_2 := blk_frozen BK160.out 2; have hfz11_3 := blk_frozen BK160.out 3))
                (try simp only [Act.put, List.setIfInBounds_toArray, List.set_cons_zero, List.set_cons_succ])
                go_cut [45] (fun v45 wc => ∃ (kq : Nat) (x45_8 : Bool), v45 = .bool x45_8 ∧ Aside0 (spec_NetValid.j2 kq a0 l1 x5_2 x45_8 ((rd_T32 l1 x5_2).f0) ((rd_T32 l1 x5_2).f1) ((rd_T32 l1 x5_2).f2) ((rd_T32 l1 x5_2).f3) = some r) ∧ Aside0 (kq ≤ k2) ∧ Aside0 (wc.heap[gb160]? = some (.cells #[.int .i64 ((rd_T32 l1 x5_2).f0), .int .i64 ((rd_T32 l1 x5_2).f1), .int .i64 ((rd_T32 l1 x5_2).f2), .int .i64 ((rd_T32 l1 x5_2).f3)] 32 (0, 0))) ∧ Aside0 (Below w.heap.size w wc))
                case first =>
                  have H := HC9.out
                  clear HC9
                  replace H := Option.bind_eq_some_iff.mp H
                  obtain ⟨t161, A120, H⟩ := H
                  replace H : (if t161 = true then ((spec_l6In.f ((rd_T32 l1 x5_2).f1) 0 (wrap64 (a0 - 1))).bind fun t162 => (if t162 = true then (spec_NetValid.j2 k2 a0 l1 x5_2 (((rd_T32 l1 x5_2).f0) == ((rd_T32 l1 x5_2).f1)) ((rd_T32 l1 x5_2).f0) ((rd_T32 l1 x5_2).f1) ((rd_T32 l1 x5_2).f2) ((rd_T32 l1 x5_2).f3)) else (spec_NetValid.j2 k2 a0 l1 x5_2 true ((rd_T32 l1 x5_2).f0) ((rd_T32 l1 x5_2).f1) ((rd_T32 l1 x5_2).f2) ((rd_T32 l1 x5_2).f3)))) else (spec_NetValid.j2 k2 a0 l1 x5_2 true ((rd_T32 l1 x5_2).f0) ((rd_T32 l1 x5_2).f1) ((rd_T32 l1 x5_2).f2) ((rd_T32 l1 x5_2).f3))) = some r := H
                  have A12 := Aside0.mk A120
                  clear A120
                  by_cases c13 : t161 = true
                  · subst c13
                    have H1 : ((spec_l6In.f ((rd_T32 l1 x5_2).f1) 0 (wrap64 (a0 - 1))).bind fun t162 => (if t162 = true then (spec_NetValid.j2 k2 a0 l1 x5_2 (((rd_T32 l1 x5_2).f0) == ((rd_T32 l1 x5_2).f1)) ((rd_T32 l1 x5_2).f0) ((rd_T32 l1 x5_2).f1) ((rd_T32 l1 x5_2).f2) ((rd_T32 l1 x5_2).f3)) else (spec_NetValid.j2 k2 a0 l1 x5_2 true ((rd_T32 l1 x5_2).f0) ((rd_T32 l1 x5_2).f1) ((rd_T32 l1 x5_2).f2) ((rd_T32 l1 x5_2).f3)))) = some r := by rw [if_pos rfl] at H; exact H
                    clear H
                    have H := H1
                    clear H1
                    replace H := Option.bind_eq_some_iff.mp H
                    obtain ⟨t162, A140, H⟩ := H
                    replace H : (if t162 = true then (spec_NetValid.j2 k2 a0 l1 x5_2 (((rd_T32 l1 x5_2).f0) == ((rd_T32 l1 x5_2).f1)) ((rd_T32 l1 x5_2).f0) ((rd_T32 l1 x5_2).f1) ((rd_T32 l1 x5_2).f2) ((rd_T32 l1 x5_2).f3)) else (spec_NetValid.j2 k2 a0 l1 x5_2 true ((rd_T32 l1 x5_2).f0) ((rd_T32 l1 x5_2).f1) ((rd_T32 l1 x5_2).f2) ((rd_T32 l1 x5_2).f3))) = some r := H
                    have A14 := Aside0.mk A140
                    clear A140
                    by_cases c15 : t162 = true
                    · subst c15
                      have H1 : (spec_NetValid.j2 k2 a0 l1 x5_2 (((rd_T32 l1 x5_2).f0) == ((rd_T32 l1 x5_2).f1)) ((rd_T32 l1 x5_2).f0) ((rd_T32 l1 x5_2).f1) ((rd_T32 l1 x5_2).f2) ((rd_T32 l1 x5_2).f3)) = some r := by rw [if_pos rfl] at H; exact H
                      clear H
                      have H := H1
                      clear H1
                      have H' := Aside0.mk H
                      clear H
                      have hcz16_0 : w10.cell? ⟨gb160, 0, none⟩ = some (.int .i64 0) := (blk_cell BK160.out 0).trans rfl
                      have hcz16_1 : w10.cell? ⟨gb160, 1, none⟩ = some (.int .i64 0) := (blk_cell BK160.out 1).trans rfl
                      have hcz16_2 : w10.cell? ⟨gb160, 2, none⟩ = some (.int .i64 0) := (blk_cell BK160.out 2).trans rfl
                      have hcz16_3 : w10.cell? ⟨gb160, 3, none⟩ = some (.int .i64 0) := (blk_cell BK160.out 3).trans rfl
                      have hfz16_0 := blk_frozen BK160.out 0
                      have hfz16_1 := blk_frozen BK160.out 1
                      have hfz16_2 := blk_frozen BK160.out 2
                      have hfz16_3 := blk_frozen BK160.out 3
                      go_wp2_with (first | ((with_reducible refine gate_callee (f := 40) rfl ?_); refine goesL_ (some 29) rfl rfl Try.func40 (by kernel_rfl) rfl #[.int .i64 ((rd_T32 l1 x5_2).f0), .int .i64 0, .int .i64 (wrap64 (a0 - 1))] rfl qq5 ?_; (with_reducible refine (spec_l6In.calls ((rd_T32 l1 x5_2).f0) 0 (wrap64 (a0 - 1)) true _ A12.out).mono ?_); rintro e w' ⟨rfl, ⟨nd, rfl⟩⟩; refine ⟨_, rfl, ?_⟩) | (go_at_call 40; (with_reducible refine (spec_l6In.calls ((rd_T32 l1 x5_2).f1) 0 (wrap64 (a0 - 1)) true _ A14.out).mono ?_); rintro e w' ⟨rfl, ⟨nd, rfl⟩⟩))
                      go_meet
                      case rel => exact ⟨_, ((((rd_T32 l1 x5_2).f0) == ((rd_T32 l1 x5_2).f1))), qq13, H', ⟨qq52 HJ2.out HK2.out⟩, ⟨qq20⟩, ⟨qq4 HB.out GE160.out⟩⟩
                    · replace c15 := Bool.eq_false_iff.mpr c15
                      subst c15
                      have H1 : (spec_NetValid.j2 k2 a0 l1 x5_2 true ((rd_T32 l1 x5_2).f0) ((rd_T32 l1 x5_2).f1) ((rd_T32 l1 x5_2).f2) ((rd_T32 l1 x5_2).f3)) = some r := by rw [if_neg (show ¬ (false = true) by decide)] at H; exact H
                      clear H
                      have H := H1
                      clear H1
                      have H' := Aside0.mk H
                      clear H
                      have hcz17_0 : w10.cell? ⟨gb160, 0, none⟩ = some (.int .i64 0) := (blk_cell BK160.out 0).trans rfl
                      have hcz17_1 : w10.cell? ⟨gb160, 1, none⟩ = some (.int .i64 0) := (blk_cell BK160.out 1).trans rfl
                      have hcz17_2 : w10.cell? ⟨gb160, 2, none⟩ = some (.int .i64 0) := (blk_cell BK160.out 2).trans rfl
                      have hcz17_3 : w10.cell? ⟨gb160, 3, none⟩ = some (.int .i64 0) := (blk_cell BK160.out 3).trans rfl
                      have hfz17_0 := blk_frozen BK160.out 0
                      have hfz17_1 := blk_frozen BK160.out 1
                      have hfz17_2 := blk_frozen BK160.out 2
                      have hfz17_3 := blk_frozen BK160.out 3
                      go_wp2_with (first | ((with_reducible refine gate_callee (f := 40) rfl ?_); refine goesL_ (some 29) rfl rfl Try.func40 (by kernel_rfl) rfl #[.int .i64 ((rd_T32 l1 x5_2).f0), .int .i64 0, .int .i64 (wrap64 (a0 - 1))] rfl qq5 ?_; (with_reducible refine (spec_l6In.calls ((rd_T32 l1 x5_2).f0) 0 (wrap64 (a0 - 1)) true _ A12.out).mono ?_); rintro e w' ⟨rfl, ⟨nd, rfl⟩⟩; refine ⟨_, rfl, ?_⟩) | (go_at_call 40; (with_reducible refine (spec_l6In.calls ((rd_T32 l1 x5_2).f1) 0 (wrap64 (a0 - 1)) false _ A14.out).mono ?_); rintro e w' ⟨rfl, ⟨nd, rfl⟩⟩))
                      go_meet
                      case rel => exact ⟨_, (true), qq13, H', ⟨qq52 HJ2.out HK2.out⟩, ⟨qq20⟩, ⟨qq4 HB.out GE160.out⟩⟩
                  · replace c13 := Bool.eq_false_iff.mpr c13
                    subst c13
                    have H1 : (spec_NetValid.j2 k2 a0 l1 x5_2 true ((rd_T32 l1 x5_2).f0) ((rd_T32 l1 x5_2).f1) ((rd_T32 l1 x5_2).f2) ((rd_T32 l1 x5_2).f3)) = some r := by rw [if_neg (show ¬ (false = true) by decide)] at H; exact H
                    clear H
                    have H := H1
                    clear H1
                    have H' := Aside0.mk H
                    clear H
                    have hcz18_0 : w10.cell? ⟨gb160, 0, none⟩ = some (.int .i64 0) := (blk_cell BK160.out 0).trans rfl
                    have hcz18_1 : w10.cell? ⟨gb160, 1, none⟩ = some (.int .i64 0) := (blk_cell BK160.out 1).trans rfl
                    have hcz18_2 : w10.cell? ⟨gb160, 2, none⟩ = some (.int .i64 0) := (blk_cell BK160.out 2).trans rfl
                    have hcz18_3 : w10.cell? ⟨gb160, 3, none⟩ = some (.int .i64 0) := (blk_cell BK160.out 3).trans rfl
                    have hfz18_0 := blk_frozen BK160.out 0
                    have hfz18_1 := blk_frozen BK160.out 1
                    have hfz18_2 := blk_frozen BK160.out 2
                    have hfz18_3 := blk_frozen BK160.out 3
                    go_wp2_with (first | ((with_reducible refine gate_callee (f := 40) rfl ?_); refine goesL_ (some 29) rfl rfl Try.func40 (by kernel_rfl) rfl #[.int .i64 ((rd_T32 l1 x5_2).f0), .int .i64 0, .int .i64 (wrap64 (a0 - 1))] rfl qq5 ?_; (with_reducible refine (spec_l6In.calls ((rd_T32 l1 x5_2).f0) 0 (wrap64 (a0 - 1)) false _ A12.out).mono ?_); rintro e w' ⟨rfl, ⟨nd, rfl⟩⟩; refine ⟨_, rfl, ?_⟩))
                    go_meet
                    case rel => exact ⟨_, (true), qq13, H', ⟨qq52 HJ2.out HK2.out⟩, ⟨qq20⟩, ⟨qq4 HB.out GE160.out⟩⟩
                case rest =>
                  clear HC9
                  try clear c1
                  try clear p1
                  try clear q1
                  try clear hx1
                  try clear p2
                  try clear c4
                  try clear c5
                  try clear c6
                  try clear p6
                  try clear c7
                  try clear c7b0
                  try clear c8
                  try clear c8b0
                  try clear c13
                  try clear c15
                  try clear p15
                  try clear q15
                  try clear hx15
                  try clear hcz11_0
                  try clear hcz11_1
                  try clear hcz11_2
                  try clear hcz11_3
                  try clear hcz16_0
                  try clear hcz16_1
                  try clear hcz16_2
                  try clear hcz16_3
                  try clear hcz17_0
                  try clear hcz17_1
                  try clear hcz17_2
                  try clear hcz17_3
                  try clear hcz18_0
                  try clear hcz18_1
                  try clear hcz18_2
                  try clear hcz18_3
                  try clear hfz11_0
                  try clear hfz11_1
                  try clear hfz11_2
                  try clear hfz11_3
                  try clear hfz16_0
                  try clear hfz16_1
                  try clear hfz16_2
                  try clear hfz16_3
                  try clear hfz17_0
                  try clear hfz17_1
                  try clear hfz17_2
                  try clear hfz17_3
                  try clear hfz18_0
                  try clear hfz18_1
                  try clear hfz18_2
                  try clear hfz18_3
                  try clear hx159_0
                  try clear hx159_1
                  try clear hx159_2
                  try clear hx159_3
                  try clear p159
                  try clear p2
                  try clear q159
                  obtain ⟨kq, x45_8, rfl, HA, HJ8, BK160, HB⟩ := hcut
                  cases kq with
                  | zero => exact absurd HA.out (by simp [spec_NetValid.j2])
                  | succ kj8 =>
                    have H := HA.out
                    clear HA
                    simp only [spec_NetValid.j2] at H
                    by_cases c19 : x45_8 = true
                    · subst c19
                      have H1 : (some false) = some r := by rw [if_pos rfl] at H; exact H
                      clear H
                      have H := H1
                      clear H1
                      obtain rfl := Option.some.inj H
                      go_wp2
                      go_ret
                      exact ⟨qq11, qq4 HB.out GE160.out⟩
                    · replace c19 := Bool.eq_false_iff.mpr c19
                      subst c19
                      have H1 : ((spec_l6In.f ((rd_T32 l1 x5_2).f2) (-100000) 100000).bind fun t163 => (if t163 = true then ((spec_l6In.f ((rd_T32 l1 x5_2).f3) 1 9).bind fun t164 => (if t164 = true then (spec_NetValid.l0 kj8 a0 l1 (wrap64 (x5_2 + 1))) else (some false))) else (some false))) = some r := by rw [if_neg (show ¬ (false = true) by decide)] at H; exact H
                      clear H
                      have H := H1
                      clear H1
                      replace H := Option.bind_eq_some_iff.mp H
                      obtain ⟨t163, A200, H⟩ := H
                      replace H : (if t163 = true then ((spec_l6In.f ((rd_T32 l1 x5_2).f3) 1 9).bind fun t164 => (if t164 = true then (spec_NetValid.l0 kj8 a0 l1 (wrap64 (x5_2 + 1))) else (some false))) else (some false)) = some r := H
                      have A20 := Aside0.mk A200
                      clear A200
                      by_cases c21 : t163 = true
                      · subst c21
                        have H1 : ((spec_l6In.f ((rd_T32 l1 x5_2).f3) 1 9).bind fun t164 => (if t164 = true then (spec_NetValid.l0 kj8 a0 l1 (wrap64 (x5_2 + 1))) else (some false))) = some r := by rw [if_pos rfl] at H; exact H
                        clear H
                        have H := H1
                        clear H1
                        replace H := Option.bind_eq_some_iff.mp H
                        obtain ⟨t164, A220, H⟩ := H
                        replace H : (if t164 = true then (spec_NetValid.l0 kj8 a0 l1 (wrap64 (x5_2 + 1))) else (some false)) = some r := H
                        have A22 := Aside0.mk A220
                        clear A220
                        by_cases c23 : t164 = true
                        · subst c23
                          have H1 : (spec_NetValid.l0 kj8 a0 l1 (wrap64 (x5_2 + 1))) = some r := by rw [if_pos rfl] at H; exact H
                          clear H
                          have H := H1
                          clear H1
                          have H' := Aside0.mk H
                          clear H
                          have hcz24_0 : wc.cell? ⟨gb160, 0, none⟩ = some (.int .i64 ((rd_T32 l1 x5_2).f0)) := (blk_cell BK160.out 0).trans rfl
                          have hcz24_1 : wc.cell? ⟨gb160, 1, none⟩ = some (.int .i64 ((rd_T32 l1 x5_2).f1)) := (blk_cell BK160.out 1).trans rfl
                          have hcz24_2 : wc.cell? ⟨gb160, 2, none⟩ = some (.int .i64 ((rd_T32 l1 x5_2).f2)) := (blk_cell BK160.out 2).trans rfl
                          have hcz24_3 : wc.cell? ⟨gb160, 3, none⟩ = some (.int .i64 ((rd_T32 l1 x5_2).f3)) := (blk_cell BK160.out 3).trans rfl
                          have hfz24_0 := blk_frozen BK160.out 0
                          have hfz24_1 := blk_frozen BK160.out 1
                          have hfz24_2 := blk_frozen BK160.out 2
                          have hfz24_3 := blk_frozen BK160.out 3
                          go_wp2_with (first | ((with_reducible refine gate_callee (f := 40) rfl ?_); refine goesL_ (some 48) rfl rfl Try.func40 (by kernel_rfl) rfl #[.int .i64 ((rd_T32 l1 x5_2).f2), .int .i64 (-100000), .int .i64 100000] rfl qq5 ?_; (with_reducible refine (spec_l6In.calls ((rd_T32 l1 x5_2).f2) (-100000) 100000 true _ A20.out).mono ?_); rintro e w' ⟨rfl, ⟨nd, rfl⟩⟩; refine ⟨_, rfl, ?_⟩) | (go_at_call 40; (with_reducible refine (spec_l6In.calls ((rd_T32 l1 x5_2).f3) 1 9 true _ A22.out).mono ?_); rintro e w' ⟨rfl, ⟨nd, rfl⟩⟩))
                          go_roundg kj8
                          case measure => have := HJ2.out; have := HK2.out; have := HJ8.out; omega
                          case rel => exact ⟨(wrap64 (x5_2 + 1)), qq13, H', ⟨qq54 HJ2.out HK2.out HJ8.out⟩, ⟨qq4 HB.out GE160.out⟩⟩
                        · replace c23 := Bool.eq_false_iff.mpr c23
                          subst c23
                          have H1 : (some false) = some r := by rw [if_neg (show ¬ (false = true) by decide)] at H; exact H
                          clear H
                          have H := H1
                          clear H1
                          obtain rfl := Option.some.inj H
                          have hcz25_0 : wc.cell? ⟨gb160, 0, none⟩ = some (.int .i64 ((rd_T32 l1 x5_2).f0)) := (blk_cell BK160.out 0).trans rfl
                          have hcz25_1 : wc.cell? ⟨gb160, 1, none⟩ = some (.int .i64 ((rd_T32 l1 x5_2).f1)) := (blk_cell BK160.out 1).trans rfl
                          have hcz25_2 : wc.cell? ⟨gb160, 2, none⟩ = some (.int .i64 ((rd_T32 l1 x5_2).f2)) := (blk_cell BK160.out 2).trans rfl
                          have hcz25_3 : wc.cell? ⟨gb160, 3, none⟩ = some (.int .i64 ((rd_T32 l1 x5_2).f3)) := (blk_cell BK160.out 3).trans rfl
                          have hfz25_0 := blk_frozen BK160.out 0
                          have hfz25_1 := blk_frozen BK160.out 1
                          have hfz25_2 := blk_frozen BK160.out 2
                          have hfz25_3 := blk_frozen BK160.out 3
                          go_wp2_with (first | ((with_reducible refine gate_callee (f := 40) rfl ?_); refine goesL_ (some 48) rfl rfl Try.func40 (by kernel_rfl) rfl #[.int .i64 ((rd_T32 l1 x5_2).f2), .int .i64 (-100000), .int .i64 100000] rfl qq5 ?_; (with_reducible refine (spec_l6In.calls ((rd_T32 l1 x5_2).f2) (-100000) 100000 true _ A20.out).mono ?_); rintro e w' ⟨rfl, ⟨nd, rfl⟩⟩; refine ⟨_, rfl, ?_⟩) | (go_at_call 40; (with_reducible refine (spec_l6In.calls ((rd_T32 l1 x5_2).f3) 1 9 false _ A22.out).mono ?_); rintro e w' ⟨rfl, ⟨nd, rfl⟩⟩))
                          go_ret
                          exact ⟨qq11, qq4 HB.out GE160.out⟩
                      · replace c21 := Bool.eq_false_iff.mpr c21
                        subst c21
                        have H1 : (some false) = some r := by rw [if_neg (show ¬ (false = true) by decide)] at H; exact H
                        clear H
                        have H := H1
                        clear H1
                        obtain rfl := Option.some.inj H
                        have hcz26_0 : wc.cell? ⟨gb160, 0, none⟩ = some (.int .i64 ((rd_T32 l1 x5_2).f0)) := (blk_cell BK160.out 0).trans rfl
                        have hcz26_1 : wc.cell? ⟨gb160, 1, none⟩ = some (.int .i64 ((rd_T32 l1 x5_2).f1)) := (blk_cell BK160.out 1).trans rfl
                        have hcz26_2 : wc.cell? ⟨gb160, 2, none⟩ = some (.int .i64 ((rd_T32 l1 x5_2).f2)) := (blk_cell BK160.out 2).trans rfl
                        have hcz26_3 : wc.cell? ⟨gb160, 3, none⟩ = some (.int .i64 ((rd_T32 l1 x5_2).f3)) := (blk_cell BK160.out 3).trans rfl
                        have hfz26_0 := blk_frozen BK160.out 0
                        have hfz26_1 := blk_frozen BK160.out 1
                        have hfz26_2 := blk_frozen BK160.out 2
                        have hfz26_3 := blk_frozen BK160.out 3
                        go_wp2_with (first | ((with_reducible refine gate_callee (f := 40) rfl ?_); refine goesL_ (some 48) rfl rfl Try.func40 (by kernel_rfl) rfl #[.int .i64 ((rd_T32 l1 x5_2).f2), .int .i64 (-100000), .int .i64 100000] rfl qq5 ?_; (with_reducible refine (spec_l6In.calls ((rd_T32 l1 x5_2).f2) (-100000) 100000 false _ A20.out).mono ?_); rintro e w' ⟨rfl, ⟨nd, rfl⟩⟩; refine ⟨_, rfl, ?_⟩))
                        go_ret
                        exact ⟨qq11, qq4 HB.out GE160.out⟩
              · rw [if_neg c8] at H
                exact absurd H (by simp)
            · rw [if_neg c7] at H
              have c7b0 : decide (x5_2 < (l1.length : Int)) = false := decide_eq_false c7
              clear c7
              obtain rfl := Option.some.inj H
              go_wp2
              go_ret
              exact ⟨qq11, qq1⟩

end Go.Proofs.Ytmcfhmflncghiaa.Q
namespace Go.Proofs.Ytmcfhmflncghiaa.Pure
open Go.RowKit Go.Proofs.Ytmcfhmflncghiaa.Q Go.Proofs.YtmcfhmflncghiaaW.PrintWords Go.Proofs.YtmcfhmflncghiaaW.PrintLast Go.Proofs.YtmcfhmflncghiaaW.PrintMore

abbrev Run := S32
theorem nw64 {x : Int} (h0 : -9223372036854775808 ≤ x) (h1 : x ≤ 9223372036854775807) : wrap64 x = x := by unfold wrap64; omega
section
variable {α : Type} (pre suf : List α) (y : α)
theorem len_midR : (pre.length : Int) < ((pre ++ y :: suf).length : Int) := by simp; omega
theorem app_midR : pre ++ y :: suf = (pre ++ [y]) ++ suf := by simp
theorem next_midR (h : pre.length < 4611686018427387904) : wrap64 ((pre.length : Int) + 1) = ((pre ++ [y]).length : Int) := by
  unfold wrap64; simp; omega
theorem set_midR (z : α) : (pre ++ y :: suf).set ((pre.length : Int)).toNat z = pre ++ z :: suf := by simp
end
theorem rd_midR (pre suf : List Run) (y : Run) : rd_T32 (pre ++ y :: suf) (pre.length : Int) = y := by simp [rd_T32]

/-- A valid run of a net with n nodes. -/
def rvB (n : Int) (r : Run) : Bool := decide ((0 ≤ r.f0 ∧ r.f0 < n ∧ 0 ≤ r.f1 ∧ r.f1 < n ∧ r.f0 ≠ r.f1) ∧ (-100000 ≤ r.f2 ∧ r.f2 ≤ 100000) ∧ 1 ≤ r.f3 ∧ r.f3 ≤ 9)
/-- A valid net. -/
def nvB (n : Int) (l : List Run) : Bool := decide (2 ≤ n ∧ n ≤ 6 ∧ l.length ≤ 12) && l.all (rvB n)

theorem n6In_eq (a b c : Int) : spec_l6In.f a b c = some (decide (b ≤ a ∧ a ≤ c)) := by
  unfold spec_l6In.f
  by_cases h : a ≥ b
  · rw [if_pos h]; congr 1; rw [decide_eq_decide]; omega
  · rw [if_neg h]; congr 1; symm; rw [decide_eq_false_iff_not]; omega
theorem nwithin_eq (a m : Int) (h0 : 0 ≤ m) (h1 : m ≤ 9223372036854775807) : impl_within.f a m = some (decide (-m ≤ a ∧ a ≤ m)) := by
  unfold impl_within.f
  rw [nw64 (by omega) (by omega)]
  by_cases h : -m ≤ a
  · rw [if_pos h]; congr 1; rw [decide_eq_decide]; omega
  · rw [if_neg h]; congr 1; symm; rw [decide_eq_false_iff_not]; omega
theorem runValid_eq (n : Int) (r : Run) : impl_runValid.f n r.f0 r.f1 r.f2 r.f3 = some (rvB n r) := by
  simp only [impl_runValid.f, nwithin_eq _ 100000 (by omega) (by omega), Option.bind_some]
  unfold rvB
  repeat' split
  all_goals ((try simp only [decide_eq_true_eq] at *); congr 1; first | (symm; rw [decide_eq_false_iff_not]; omega) | (rw [decide_eq_decide]; omega))
theorem impl_NetValid_l0 (n : Int) (suf : List Run) : ∀ (pre : List Run) (k : Nat), suf.length < k → pre.length + suf.length < 4611686018427387904 →
    impl_NetValid.l0 k n (pre ++ suf) ((pre ++ suf).length : Int) (pre.length : Int) = some (suf.all (rvB n)) := by
  induction suf with
  | nil =>
    intro pre k hk _
    obtain ⟨k, rfl⟩ : ∃ m, k = m + 1 := ⟨k - 1, by omega⟩
    simp [impl_NetValid.l0]
  | cons y suf ih =>
    intro pre k hk hl
    simp only [List.length_cons] at hk hl
    obtain ⟨k, rfl⟩ : ∃ m, k = m + 1 := ⟨k - 1, by omega⟩
    simp only [impl_NetValid.l0]
    rw [if_pos (len_midR _ _ _), if_pos (by omega), if_pos (len_midR _ _ _), rd_midR, runValid_eq]
    simp only [Option.bind_some, List.all_cons]
    by_cases h : rvB n y = true
    · rw [if_pos h, next_midR pre y (by omega), app_midR pre suf y, ih (pre ++ [y]) k (by omega) (by simp; omega), h, Bool.true_and]
    · rw [if_neg h, Bool.eq_false_iff.2 h, Bool.false_and]
theorem impl_NetValid_eq (k : Nat) (n : Int) (l : List Run) (hk : 20 < k) : impl_NetValid.f k n l = some (nvB n l) := by
  obtain ⟨k, rfl⟩ : ∃ m, k = m + 1 := ⟨k - 1, by omega⟩
  unfold impl_NetValid.f nvB
  by_cases h1 : n < 2
  · rw [if_pos h1, decide_eq_false (by omega)]; simp [impl_NetValid.j0]
  · by_cases h2 : n > 6
    · rw [if_neg h1, if_pos h2, decide_eq_false (by omega)]; simp [impl_NetValid.j0]
    · rw [if_neg h1, if_neg h2]
      simp only [impl_NetValid.j0]
      by_cases h3 : (l.length : Int) > 12
      · rw [if_pos (by simpa using h3), decide_eq_false (by omega)]; simp
      · rw [if_neg (by simpa using h3), decide_eq_true (by omega), Bool.true_and]
        have := impl_NetValid_l0 n l [] k (by omega) (by simp; omega)
        simpa using this
theorem spec_NetValid_l0 (n : Int) (hn : 2 ≤ n ∧ n ≤ 6) (suf : List Run) : ∀ (pre : List Run) (k : Nat), 2 * suf.length + 1 < k → pre.length + suf.length < 4611686018427387904 →
    spec_NetValid.l0 k n (pre ++ suf) (pre.length : Int) = some (suf.all (rvB n)) := by
  induction suf with
  | nil =>
    intro pre k hk _
    obtain ⟨k, rfl⟩ : ∃ m, k = m + 1 := ⟨k - 1, by omega⟩
    simp [spec_NetValid.l0]
  | cons y suf ih =>
    intro pre k hk hl
    simp only [List.length_cons] at hk hl
    obtain ⟨k, rfl⟩ : ∃ m, k = m + 2 := ⟨k - 2, by omega⟩
    rw [spec_NetValid.l0]
    simp only [n6In_eq, Option.bind_some, List.all_cons]
    rw [if_pos (len_midR _ _ _), if_pos (by omega), rd_midR, nw64 (x := n - 1) (by omega) (by omega)]
    have hj : ∀ t : Bool, spec_NetValid.j2 (k + 1) n (pre ++ y :: suf) (pre.length : Int) t y.f0 y.f1 y.f2 y.f3 = some (!t && (decide ((-100000 ≤ y.f2 ∧ y.f2 ≤ 100000) ∧ 1 ≤ y.f3 ∧ y.f3 ≤ 9) && suf.all (rvB n))) := by
      intro t
      simp only [spec_NetValid.j2, n6In_eq, Option.bind_some]
      cases t with
      | true => simp
      | false =>
        rw [if_neg (by simp)]
        by_cases h1 : -100000 ≤ y.f2 ∧ y.f2 ≤ 100000
        · rw [if_pos (by simpa using h1)]
          by_cases h2 : 1 ≤ y.f3 ∧ y.f3 ≤ 9
          · rw [if_pos (by simpa using h2), next_midR pre y (by omega), app_midR pre suf y, ih (pre ++ [y]) k (by omega) (by simp; omega), decide_eq_true ⟨h1, h2⟩]; simp
          · rw [if_neg (by simpa using h2), decide_eq_false (fun q => h2 q.2)]; simp
        · rw [if_neg (by simpa using h1), decide_eq_false (fun q => h1 q.1)]; simp
    by_cases h0 : 0 ≤ y.f0 ∧ y.f0 ≤ n - 1
    · rw [if_pos (by simpa using h0)]
      by_cases h1 : 0 ≤ y.f1 ∧ y.f1 ≤ n - 1
      · rw [if_pos (by simpa using h1), hj, ← Bool.and_assoc]
        congr 2
        unfold rvB
        rw [Bool.eq_iff_iff, decide_eq_true_eq, Bool.and_eq_true, decide_eq_true_eq]
        simp; omega
      · rw [if_neg (by simpa using h1), hj]
        have : rvB n y = false := by unfold rvB; rw [decide_eq_false_iff_not]; omega
        rw [this]; simp
    · rw [if_neg (by simpa using h0), hj]
      have : rvB n y = false := by unfold rvB; rw [decide_eq_false_iff_not]; omega
      rw [this]; simp
theorem spec_NetValid_eq (k : Nat) (n : Int) (l : List Run) (hk : 40 < k) : spec_NetValid.f k n l = some (nvB n l) := by
  obtain ⟨k, rfl⟩ : ∃ m, k = m + 1 := ⟨k - 1, by omega⟩
  simp only [spec_NetValid.f, n6In_eq, Option.bind_some, spec_NetValid.j0]
  unfold nvB
  by_cases h1 : 2 ≤ n ∧ n ≤ 6
  · rw [if_pos (by simpa using h1)]
    by_cases h3 : (l.length : Int) > 12
    · rw [if_pos (by simpa using h3), decide_eq_false (by omega)]; simp
    · rw [if_neg (by simpa using h3), decide_eq_true (by omega), Bool.true_and]
      have := spec_NetValid_l0 n h1 l [] k (by omega) (by simp; omega)
      simpa using this
  · rw [if_neg (by simpa using h1), if_pos trivial, decide_eq_false (by omega)]; simp
end Go.Proofs.Ytmcfhmflncghiaa.Pure
namespace Go.Proofs.Ytmcfhmflncghiaa.Pure
open Go.RowKit Go.Proofs.Ytmcfhmflncghiaa.Q Go.Proofs.YtmcfhmflncghiaaW.PrintWords Go.Proofs.YtmcfhmflncghiaaW.PrintLast Go.Proofs.YtmcfhmflncghiaaW.PrintMore

/-- Linked by runs. -/
inductive Lk (l : List Run) : Int → Int → Prop
  | refl (a : Int) : Lk l a a
  | fwd {a : Int} {r : Run} (hm : r ∈ l) (h : Lk l a r.f0) : Lk l a r.f1
  | bwd {a : Int} {r : Run} (hm : r ∈ l) (h : Lk l a r.f1) : Lk l a r.f0
theorem Lk.trans {l : List Run} {a b c : Int} (h : Lk l a b) (k : Lk l b c) : Lk l a c := by
  induction k with
  | refl => exact h
  | fwd hm _ ih => exact .fwd hm ih
  | bwd hm _ ih => exact .bwd hm ih
theorem Lk.symm {l : List Run} {a b : Int} (h : Lk l a b) : Lk l b a := by
  induction h with
  | refl => exact .refl _
  | fwd hm _ ih => exact Lk.trans (.bwd hm (.refl _)) ih
  | bwd hm _ ih => exact Lk.trans (.fwd hm (.refl _)) ih
theorem Lk.mono {l l' : List Run} {a b : Int} (h : Lk l a b) (hs : ∀ r ∈ l, r ∈ l') : Lk l' a b := by
  induction h with
  | refl => exact .refl _
  | fwd hm _ ih => exact .fwd (hs _ hm) ih
  | bwd hm _ ih => exact .bwd (hs _ hm) ih
theorem Lk.run {l : List Run} {r : Run} (h : r ∈ l) : Lk l r.f0 r.f1 := .fwd h (.refl _)
theorem Lk.const {α : Type} {l : List Run} {a b : Int} (f : Int → α) (hc : ∀ r ∈ l, f r.f0 = f r.f1) (h : Lk l a b) : f a = f b := by
  induction h with
  | refl => rfl
  | fwd hm _ ih => exact ih.trans (hc _ hm)
  | bwd hm _ ih => exact ih.trans (hc _ hm).symm
/-- The ends of all runs are nodes. -/
def VL (n : Int) (l : List Run) : Prop := ∀ r ∈ l, 0 ≤ r.f0 ∧ r.f0 < n ∧ 0 ≤ r.f1 ∧ r.f1 < n
theorem VL.sub {n : Int} {l l' : List Run} (h : VL n l) (hs : ∀ r ∈ l', r ∈ l) : VL n l' := fun r hr => h r (hs r hr)
theorem Lk.range {n : Int} {l : List Run} (hv : VL n l) {a b : Int} (h : Lk l a b) (ha : 0 ≤ a ∧ a < n) : 0 ≤ b ∧ b < n := by
  induction h with
  | refl => exact ha
  | fwd hm _ _ => have := hv _ hm; omega
  | bwd hm _ _ => have := hv _ hm; omega
/-- The least node with which each node is linked. -/
structure Lst (n : Int) (l : List Run) (o : List Int) : Prop where
  len : (o.length : Int) = n
  lk : ∀ v, 0 ≤ v → v < n → Lk l (rd o v) v
  le : ∀ v, 0 ≤ v → v < n → rd o v ≤ v
  nn : ∀ v, 0 ≤ v → v < n → 0 ≤ rd o v
  cl : ∀ r ∈ l, rd o r.f0 = rd o r.f1
theorem rd_eq (o : List Int) (i : Nat) (h : i < o.length) : rd o (i : Int) = o[i] := by
  unfold rd; simp [List.getD, h]
theorem ext_rd {o o' : List Int} (hl : o.length = o'.length) (h : ∀ v : Int, 0 ≤ v → v < o.length → rd o v = rd o' v) : o = o' := by
  apply List.ext_getElem hl
  intro i h1 h2
  rw [← rd_eq o i h1, ← rd_eq o' i h2]
  exact h i (by omega) (by omega)
theorem rd_set (o : List Int) (i v x : Int) (h0 : 0 ≤ i) (hv : 0 ≤ v) (hl : v < o.length) : rd (o.set i.toNat x) v = if v = i then x else rd o v := by
  unfold rd
  obtain ⟨a, rfl⟩ : ∃ a : Nat, i = a := ⟨i.toNat, by omega⟩
  obtain ⟨b, rfl⟩ : ∃ b : Nat, v = b := ⟨v.toNat, by omega⟩
  simp only [Int.toNat_natCast, List.getD, List.getElem?_set]
  by_cases e : a = b
  · subst e; rw [if_pos rfl, if_pos rfl, if_pos (by omega)]; rfl
  · rw [if_neg e, if_neg (by omega)]
theorem lk_iff {n : Int} {l : List Run} {o : List Int} (h : Lst n l o) {a b : Int} (ha : 0 ≤ a ∧ a < n) (hb : 0 ≤ b ∧ b < n) : Lk l a b ↔ rd o a = rd o b := by
  constructor
  · exact fun k => k.const (rd o) h.cl
  · intro e
    exact (h.lk a ha.1 ha.2).symm.trans (by rw [e]; exact h.lk b hb.1 hb.2)
def mg (o : List Int) (a b : Int) : List Int := o.map fun x => if x = max a b then min a b else x
theorem rd_mg (o : List Int) (a b v : Int) (h0 : 0 ≤ v) (h1 : v < o.length) : rd (mg o a b) v = if rd o v = max a b then min a b else rd o v := by
  obtain ⟨i, rfl⟩ : ∃ i : Nat, v = i := ⟨v.toNat, by omega⟩
  rw [rd_eq _ i (by simp [mg]; omega), rd_eq o i (by omega)]
  simp [mg]
def iota (n : Int) : List Int := (List.range n.toNat).map fun (i : Nat) => (i : Int)
theorem iota_len (n : Int) (h : 0 ≤ n) : ((iota n).length : Int) = n := by simp [iota]; omega
theorem rd_iota (n v : Int) (h0 : 0 ≤ v) (h1 : v < n) : rd (iota n) v = v := by
  obtain ⟨i, rfl⟩ : ∃ i : Nat, v = i := ⟨v.toNat, by omega⟩
  rw [rd_eq _ i (by simp [iota]; omega)]
  simp [iota]
theorem Lst.nil (n : Int) (h : 0 ≤ n) : Lst n [] (iota n) := by
  refine ⟨iota_len n h, fun v h0 h1 => ?_, fun v h0 h1 => ?_, fun v h0 h1 => ?_, by simp⟩ <;> rw [rd_iota n v h0 h1]
  · exact .refl _
  · exact Int.le_refl _
  · exact h0
theorem Lst.snoc {n : Int} {l : List Run} {o : List Int} (h : Lst n l o) {e : Run} (he : 0 ≤ e.f0 ∧ e.f0 < n ∧ 0 ≤ e.f1 ∧ e.f1 < n) (hv : VL n l) : Lst n (l ++ [e]) (mg o (rd o e.f0) (rd o e.f1)) := by
  have hl := h.len
  have hs : ∀ r ∈ l, r ∈ l ++ [e] := fun r hr => List.mem_append_left _ hr
  have hab : Lk (l ++ [e]) (rd o e.f0) (rd o e.f1) := ((h.lk e.f0 he.1 he.2.1).mono hs).trans ((Lk.run (by simp)).trans ((h.lk e.f1 he.2.2.1 he.2.2.2).mono hs).symm)
  have na := h.nn e.f0 he.1 he.2.1
  have nb := h.nn e.f1 he.2.2.1 he.2.2.2
  refine ⟨by simp [mg]; omega, fun v h0 h1 => ?_, fun v h0 h1 => ?_, fun v h0 h1 => ?_, fun r hr => ?_⟩
  · rw [rd_mg _ _ _ _ h0 (by omega)]
    have k := (h.lk v h0 h1).mono hs
    split
    · next q =>
      rw [q] at k
      refine Lk.trans ?_ k
      rcases Int.le_total (rd o e.f0) (rd o e.f1) with c | c
      · rw [Int.max_eq_right c, Int.min_eq_left c]; exact hab
      · rw [Int.max_eq_left c, Int.min_eq_right c]; exact hab.symm
    · exact k
  · rw [rd_mg _ _ _ _ h0 (by omega)]
    have := h.le v h0 h1
    split <;> omega
  · rw [rd_mg _ _ _ _ h0 (by omega)]
    have := h.nn v h0 h1
    split <;> omega
  · rcases List.mem_append.1 hr with q | q
    · have := hv r q
      rw [rd_mg _ _ _ _ (by omega) (by omega), rd_mg _ _ _ _ (by omega) (by omega), h.cl r q]
    · obtain rfl : r = e := by simpa using q
      rw [rd_mg _ _ _ _ (by omega) (by omega), rd_mg _ _ _ _ (by omega) (by omega)]
      split <;> split <;> omega
def leastR (n : Int) (l : List Run) : List Int := l.foldl (fun o r => mg o (rd o r.f0) (rd o r.f1)) (iota n)
theorem leastR_snoc (n : Int) (l : List Run) (e : Run) : leastR n (l ++ [e]) = mg (leastR n l) (rd (leastR n l) e.f0) (rd (leastR n l) e.f1) := by simp [leastR]
theorem snocInd {α : Type} (P : List α → Prop) (h0 : P []) (h1 : ∀ l e, P l → P (l ++ [e])) (l : List α) : P l := by
  rw [← List.reverse_reverse l]
  induction l.reverse with
  | nil => exact h0
  | cons a t ih => rw [List.reverse_cons]; exact h1 _ _ ih
theorem leastR_lst {n : Int} (hn : 0 ≤ n) (l : List Run) : VL n l → Lst n l (leastR n l) := by
  refine snocInd (fun l => VL n l → Lst n l (leastR n l)) (fun _ => Lst.nil n hn) (fun l e ih hv => ?_) l
  have hv' : VL n l := hv.sub fun r hr => List.mem_append_left _ hr
  rw [leastR_snoc]
  exact (ih hv').snoc (hv e (by simp)) hv'
theorem nvB_VL {n : Int} {l : List Run} (h : nvB n l = true) : VL n l := by
  intro r hr
  unfold nvB at h
  rw [Bool.and_eq_true] at h
  have := List.all_eq_true.1 h.2 r hr
  unfold rvB at this
  have := of_decide_eq_true this
  omega
theorem nvB_n {n : Int} {l : List Run} (h : nvB n l = true) : 2 ≤ n ∧ n ≤ 6 ∧ l.length ≤ 12 := by
  unfold nvB at h
  rw [Bool.and_eq_true] at h
  exact of_decide_eq_true h.1
/-! counting -/
theorem count_le_of (c : Int) : ∀ (o o' : List Int), o.length = o'.length → (∀ i : Nat, (h : i < o.length) → (h' : i < o'.length) → o[i] = c → o'[i] = c) → o.count c ≤ o'.count c
  | [], [], _, _ => Nat.le_refl _
  | x :: o, y :: o', hl, h => by
    have ih := count_le_of c o o' (by simpa using hl) (fun i h1 h2 e => by have := h (i + 1) (by simp; omega) (by simp; omega) (by simpa using e); simpa using this)
    have h0 := h 0 (by simp) (by simp)
    simp only [List.count_cons, List.getElem_cons_zero] at h0 ⊢
    by_cases e : x = c
    · simp [e, h0 e]; omega
    · simp [e]; omega
theorem count_lt_of (c : Int) : ∀ (o o' : List Int), o.length = o'.length → (∀ i : Nat, (h : i < o.length) → (h' : i < o'.length) → o[i] = c → o'[i] = c) → (j : Nat) → (h : j < o.length) → (h' : j < o'.length) → o[j] ≠ c → o'[j] = c → o.count c < o'.count c
  | [], _, _, _, j, h, _, _, _ => by simp at h
  | x :: o, [], hl, _, _, _, _, _, _ => by simp at hl
  | x :: o, y :: o', hl, h, j, hj, hj', hn, he => by
    have hs : ∀ i : Nat, (h : i < o.length) → (h' : i < o'.length) → o[i] = c → o'[i] = c := fun i h1 h2 e => by have := h (i + 1) (by simp; omega) (by simp; omega) (by simpa using e); simpa using this
    have h0 := h 0 (by simp) (by simp)
    simp only [List.count_cons, List.getElem_cons_zero] at h0 ⊢
    cases j with
    | zero =>
      have ih := count_le_of c o o' (by simpa using hl) hs
      simp only [List.getElem_cons_zero] at hn he
      simp [hn, he]; omega
    | succ j =>
      have ih := count_lt_of c o o' (by simpa using hl) hs j (by simpa using hj) (by simpa using hj') (by simpa using hn) (by simpa using he)
      by_cases e : x = c
      · simp [e, h0 e]; omega
      · simp [e]; omega
theorem count_lt_rd (c : Int) (o o' : List Int) (hl : o.length = o'.length) (h : ∀ v : Int, 0 ≤ v → v < o.length → rd o v = c → rd o' v = c) (v : Int) (h0 : 0 ≤ v) (h1 : v < o.length) (hn : rd o v ≠ c) (he : rd o' v = c) : o.count c < o'.count c := by
  obtain ⟨j, rfl⟩ : ∃ j : Nat, v = j := ⟨v.toNat, by omega⟩
  refine count_lt_of c o o' hl (fun i h1 h2 e => ?_) j (by omega) (by omega) (by rwa [rd_eq o j (by omega)] at hn) (by rwa [rd_eq o' j (by omega)] at he)
  have := h i (by omega) (by omega) (by rw [rd_eq o i h1]; exact e)
  rwa [rd_eq o' i h2] at this
theorem count_pos_rd (c : Int) (o : List Int) (v : Int) (h0 : 0 ≤ v) (h1 : v < o.length) (h : rd o v = c) : 0 < o.count c := by
  obtain ⟨j, rfl⟩ : ∃ j : Nat, v = j := ⟨v.toNat, by omega⟩
  rw [List.count_pos_iff]
  rw [rd_eq o j (by omega)] at h
  rw [← h]
  exact List.getElem_mem _
/-! the reference: rounds -/
def stp (o : List Int) (r : Run) : List Int := (o.set r.f0.toNat (min (rd o r.f0) (rd o r.f1))).set r.f1.toNat (min (rd o r.f0) (rd o r.f1))
def rnd (l : List Run) (o : List Int) : List Int := l.foldl stp o
def rnds (l : List Run) : Nat → List Int → List Int
  | 0, o => o
  | j + 1, o => rnd l (rnds l j o)
structure Sd (n : Int) (l : List Run) (o : List Int) : Prop where
  len : (o.length : Int) = n
  lk : ∀ v, 0 ≤ v → v < n → Lk l (rd o v) v
theorem rd_stp {n : Int} {o : List Int} {r : Run} (hl : (o.length : Int) = n) (hr : 0 ≤ r.f0 ∧ r.f0 < n ∧ 0 ≤ r.f1 ∧ r.f1 < n) (v : Int) (h0 : 0 ≤ v) (h1 : v < n) :
    rd (stp o r) v = if v = r.f0 ∨ v = r.f1 then min (rd o r.f0) (rd o r.f1) else rd o v := by
  unfold stp
  rw [rd_set _ _ _ _ hr.2.2.1 h0 (by simp; omega), rd_set _ _ _ _ hr.1 h0 (by omega)]
  split <;> split <;> simp_all
theorem Sd.stp {n : Int} {l : List Run} {o : List Int} (h : Sd n l o) (hv : VL n l) {r : Run} (hr : r ∈ l) : Sd n l (stp o r) := by
  have hb := hv r hr
  refine ⟨by simp [Go.Proofs.Ytmcfhmflncghiaa.Pure.stp]; exact h.len, fun v h0 h1 => ?_⟩
  rw [rd_stp h.len hb v h0 h1]
  have k0 := h.lk r.f0 hb.1 hb.2.1
  have k1 := h.lk r.f1 hb.2.2.1 hb.2.2.2
  split
  · next q =>
    have kk : Lk l (min (rd o r.f0) (rd o r.f1)) r.f0 := by
      rcases Int.le_total (rd o r.f0) (rd o r.f1) with c | c
      · rw [Int.min_eq_left c]; exact k0
      · rw [Int.min_eq_right c]; exact k1.trans (Lk.run hr).symm
    rcases q with q | q <;> rw [q]
    · exact kk
    · exact kk.trans (Lk.run hr)
  · exact h.lk v h0 h1
theorem stp_keep {n : Int} {l : List Run} {o : List Int} {c : Int} (h : Sd n l o) (hv : VL n l) (hc : ∀ v, 0 ≤ v → v < n → Lk l c v → c ≤ v) {r : Run} (hr : r ∈ l) :
    (∀ v, 0 ≤ v → v < n → rd o v = c → rd (stp o r) v = c) ∧ (rd o r.f0 = c ∨ rd o r.f1 = c → rd (stp o r) r.f0 = c ∧ rd (stp o r) r.f1 = c) := by
  have hb := hv r hr
  have k0 := h.lk r.f0 hb.1 hb.2.1
  have k1 := h.lk r.f1 hb.2.2.1 hb.2.2.2
  have hm : rd o r.f0 = c ∨ rd o r.f1 = c → min (rd o r.f0) (rd o r.f1) = c := by
    intro q
    have r0 := (k0.symm).range hv ⟨hb.1, hb.2.1⟩
    have r1 := (k1.symm).range hv ⟨hb.2.2.1, hb.2.2.2⟩
    rcases q with q | q
    · have := hc _ r1.1 r1.2 (by rw [← q]; exact k0.trans ((Lk.run hr).trans k1.symm))
      omega
    · have := hc _ r0.1 r0.2 (by rw [← q]; exact k1.trans ((Lk.run hr).symm.trans k0.symm))
      omega
  refine ⟨fun v h0 h1 e => ?_, fun q => ?_⟩
  · rw [rd_stp h.len hb v h0 h1]
    split
    · next q => rcases q with q | q <;> subst q <;> exact hm (by simp [e])
    · exact e
  · rw [rd_stp h.len hb _ hb.1 hb.2.1, rd_stp h.len hb _ hb.2.2.1 hb.2.2.2]
    simp [hm q]
theorem rnd_keep {n : Int} {l : List Run} {c : Int} (hv : VL n l) (hc : ∀ v, 0 ≤ v → v < n → Lk l c v → c ≤ v) : ∀ (l' : List Run) (o : List Int), (∀ r ∈ l', r ∈ l) → Sd n l o →
    Sd n l (rnd l' o) ∧ (∀ v, 0 ≤ v → v < n → rd o v = c → rd (rnd l' o) v = c) ∧ ∀ r ∈ l', (rd o r.f0 = c ∨ rd o r.f1 = c → rd (rnd l' o) r.f0 = c ∧ rd (rnd l' o) r.f1 = c)
  | [], o, _, h => ⟨h, fun _ _ _ e => e, by simp⟩
  | r :: l', o, hs, h => by
    have hr := hs r (by simp)
    have hb := hv r hr
    obtain ⟨s1, s2, s3⟩ := rnd_keep hv hc l' (stp o r) (fun x hx => hs x (by simp [hx])) (h.stp hv hr)
    obtain ⟨t1, t2⟩ := stp_keep h hv hc hr
    refine ⟨s1, fun v h0 h1 e => s2 v h0 h1 (t1 v h0 h1 e), fun x hx q => ?_⟩
    rcases List.mem_cons.1 hx with e | e
    · subst e
      have := t2 q
      exact ⟨s2 _ hb.1 hb.2.1 this.1, s2 _ hb.2.2.1 hb.2.2.2 this.2⟩
    · have hx' := hv x (hs x hx)
      refine s3 x e (q.imp (t1 _ hx'.1 hx'.2.1) (t1 _ hx'.2.2.1 hx'.2.2.2))
theorem rnds_full {n : Int} {l : List Run} {c : Int} (hv : VL n l) (hc0 : 0 ≤ c ∧ c < n) (hc : ∀ v, 0 ≤ v → v < n → Lk l c v → c ≤ v) {o : List Int} (h : Sd n l o) (ho : rd o c = c) : ∀ j : Nat,
    Sd n l (rnds l j o) ∧ rd (rnds l j o) c = c ∧ ((∀ v, Lk l c v → rd (rnds l j o) v = c) ∨ j + 1 ≤ (rnds l j o).count c)
  | 0 => ⟨h, ho, .inr (count_pos_rd c o c hc0.1 (by have := h.len; omega) ho)⟩
  | j + 1 => by
    obtain ⟨i1, i2, i3⟩ := rnds_full hv hc0 hc h ho j
    obtain ⟨s1, s2, s3⟩ := rnd_keep hv hc l (rnds l j o) (fun _ h => h) i1
    refine ⟨s1, s2 c hc0.1 hc0.2 i2, ?_⟩
    rcases i3 with i3 | i3
    · exact .inl fun v k => s2 v (k.range hv hc0).1 (k.range hv hc0).2 (i3 v k)
    · by_cases q : ∀ v, 0 ≤ v → v < n → rd (rnd l (rnds l j o)) v = c → rd (rnds l j o) v = c
      · refine .inl fun v k => s2 v (k.range hv hc0).1 (k.range hv hc0).2 ?_
        have : ∀ r ∈ l, (rd (rnds l j o) r.f0 = c) = (rd (rnds l j o) r.f1 = c) := fun r hr => by
          have hb := hv r hr
          refine propext ⟨fun e => q _ hb.2.2.1 hb.2.2.2 (s3 r hr (.inl e)).2, fun e => q _ hb.1 hb.2.1 (s3 r hr (.inr e)).1⟩
        have e := k.const (fun x => rd (rnds l j o) x = c) this
        exact e.mp i2
      · right
        have : ∃ v, 0 ≤ v ∧ v < n ∧ rd (rnd l (rnds l j o)) v = c ∧ rd (rnds l j o) v ≠ c := by
          refine Classical.byContradiction fun w => q fun v h0 h1 e => Classical.byContradiction fun e' => w ⟨v, h0, h1, e, e'⟩
        obtain ⟨v, h0, h1, e, e'⟩ := this
        have hl := i1.len
        have hl' := s1.len
        have := count_lt_rd c (rnds l j o) (rnd l (rnds l j o)) (by omega) (fun v a b => s2 v a (by omega)) v h0 (by omega) e' e
        show j + 1 + 1 ≤ (rnd l (rnds l j o)).count c
        omega
theorem rnds_least {n : Int} {l : List Run} (hn : 0 ≤ n) (hv : VL n l) : rnds l n.toNat (iota n) = leastR n l := by
  have L := leastR_lst hn l hv
  have hl := L.len
  have S0 : Sd n l (iota n) := ⟨iota_len n hn, fun v h0 h1 => by rw [rd_iota n v h0 h1]; exact .refl _⟩
  have hlen : ((rnds l n.toNat (iota n)).length : Int) = n := by
    have : ∀ j, ((rnds l j (iota n)).length : Int) = n := by
      intro j
      induction j with
      | zero => exact iota_len n hn
      | succ j ih =>
        have : ∀ (l' : List Run) (o : List Int), (rnd l' o).length = o.length := by
          intro l'
          induction l' with
          | nil => intro o; rfl
          | cons r l' ih => intro o; exact (ih _).trans (by simp [stp])
        rw [rnds, this]; exact ih
    exact this _
  refine ext_rd (by omega) fun v h0 h1 => ?_
  have hv1 : v < n := by omega
  have c0 := L.nn v h0 hv1
  have c1 := L.le v h0 hv1
  have hc : ∀ u, 0 ≤ u → u < n → Lk l (rd (leastR n l) v) u → rd (leastR n l) v ≤ u := fun u u0 u1 k => by
    have e := k.const (rd (leastR n l)) L.cl
    have e2 := (L.lk v h0 hv1).const (rd (leastR n l)) L.cl
    have := L.le u u0 u1
    omega
  obtain ⟨i1, i2, i3⟩ := rnds_full hv ⟨c0, by omega⟩ hc S0 (rd_iota n _ c0 (by omega)) n.toNat
  rcases i3 with i3 | i3
  · exact i3 v (L.lk v h0 hv1)
  · have := List.count_le_length (a := rd (leastR n l) v) (l := rnds l n.toNat (iota n))
    omega
end Go.Proofs.Ytmcfhmflncghiaa.Pure
namespace Go.Proofs.Ytmcfhmflncghiaa.LinkW
open Go.RowKit Go.WideMaps Go.Maps Go.Proofs.Ytmcfhmflncghiaa.Q Go.Proofs.Ytmcfhmflncghiaa.Pure Go.Proofs.YtmcfhmflncghiaaW.PrintWords Go.Proofs.YtmcfhmflncghiaaW.PrintLast Go.Proofs.YtmcfhmflncghiaaW.PrintMore
set_option linter.unusedVariables false
set_option linter.unusedSimpArgs false
theorem info_int : (Try.prog.info? 3).map (fun i => (i.zero, i.size, i.bytes)) = some (some (.int .i64 0), 1, 8) := by kernel_rfl
theorem zeroS (w : World) : (zeroValue 27).run Try.prog w = .ok (.slice none 0 0) w := by kernel_rfl
theorem keyI : Keyed Try.prog 3 := int_keyed Try.underlying3
/-- A run laid in a variable. -/
def put4 (w : World) (g : Nat) (a b c d : Int) : World := (((w.setCell ⟨g, 0, none⟩ (.int .i64 a)).setCell ⟨g, 1, none⟩ (.int .i64 b)).setCell ⟨g, 2, none⟩ (.int .i64 c)).setCell ⟨g, 3, none⟩ (.int .i64 d)
theorem put4_blk {w : World} {g : Nat} {a b c d : Int} {t : TypeId} (h : w.heap[g]? = some (.cells #[.int .i64 0, .int .i64 0, .int .i64 0, .int .i64 0] t (0, 0))) : (put4 w g a b c d).heap[g]? = some (.cells #[.int .i64 a, .int .i64 b, .int .i64 c, .int .i64 d] t (0, 0)) := by
  unfold put4
  refine blk_put (cs := #[.int .i64 a, .int .i64 b, .int .i64 c, .int .i64 0]) ?_ 3 _ rfl
  refine blk_put (cs := #[.int .i64 a, .int .i64 b, .int .i64 0, .int .i64 0]) ?_ 2 _ rfl
  refine blk_put (cs := #[.int .i64 a, .int .i64 0, .int .i64 0, .int .i64 0]) ?_ 1 _ rfl
  exact blk_put h 0 _ rfl
theorem put4_below {B : Nat} {w w1 : World} {g : Nat} {a b c d : Int} (h : Below B w w1) (hg : B ≤ g) : Below B w (put4 w1 g a b c d) :=
  (((h.setCell (p := ⟨g, 0, none⟩) hg _).setCell (p := ⟨g, 1, none⟩) hg _).setCell (p := ⟨g, 2, none⟩) hg _).setCell (p := ⟨g, 3, none⟩) hg _
theorem meas_up {n i : Nat} (h : i < n) (e : wrap64 ((i : Int) + 1) = ((i + 1 : Nat) : Int)) : n - (intOf (.int .i64 (wrap64 ((i : Int) + 1)))).toNat < n - (intOf (.int .i64 (i : Int))).toNat := by
  rw [e]
  show n - (i + 1) < n - i
  omega
theorem meas_up2 {n i : Nat} (h : i < n) : n - (intOf (.int .i64 ((i : Int) + 1))).toNat < n - (intOf (.int .i64 (i : Int))).toNat := by
  show n - (i + 1) < n - i
  omega
theorem take_rd (l : List Run) (i : Nat) (h : i < l.length) : l.take (i + 1) = l.take i ++ [rd_T32 l i] := by
  rw [List.take_add_one, List.getElem?_eq_getElem h]
  simp [rd_T32, h]
/-! what the map says -/
def adjD (ds : List (Int × Int)) (v : Int) : List Int := (ds.filter fun p => p.1 = v).map (·.2)
def dirs (l : List Run) : List (Int × Int) := l.flatMap fun r => [(r.f0, r.f1), (r.f1, r.f0)]
theorem adjD_snoc (ds : List (Int × Int)) (a b v : Int) : adjD (ds ++ [(a, b)]) v = adjD ds v ++ (if a = v then [b] else []) := by
  unfold adjD
  rw [List.filter_append, List.map_append]
  by_cases h : a = v
  · simp [h]
  · simp [h]
theorem adjD_len (ds : List (Int × Int)) (v : Int) : (adjD ds v).length ≤ ds.length := by
  unfold adjD; rw [List.length_map]; exact List.length_filter_le _ _
theorem dirs_snoc (l : List Run) (r : Run) : dirs (l ++ [r]) = (dirs l ++ [(r.f0, r.f1)]) ++ [(r.f1, r.f0)] := by simp [dirs]
theorem dirs_len (l : List Run) : (dirs l).length = 2 * l.length := by
  induction l with
  | nil => rfl
  | cons r l ih =>
    have : dirs (r :: l) = [(r.f0, r.f1), (r.f1, r.f0)] ++ dirs l := by simp [dirs]
    rw [this, List.length_append, ih]; simp; omega
section
variable {H : Type}
def dat (zs : List Int) : DataW H := if zs = [] then .nil else .slice (ChangeShapes.lits .i64 zs) []
def NB (D : DataW H) (ds : List (Int × Int)) : Prop := IsMap D ∧ ∀ v : Int, (Lit.int .i64 v).wf = true → D.atKey (.int .i64 v) .nil = dat (adjD ds v)
theorem NB.nil : NB (H := H) (.map []) [] := ⟨isMap_empty, fun v _ => by simp [DataW.atKey, dat, adjD]⟩
theorem lits_inj {a b : List Int} (h : ChangeShapes.lits (H := H) .i64 a = ChangeShapes.lits .i64 b) : a = b := by
  refine (List.map_inj_right (f := fun z : Int => (DataW.lit (.int .i64 z) : DataW H)) (fun x y hxy => ?_)).1 h
  simpa using hxy
theorem NB.read {D : DataW H} {ds : List (Int × Int)} (h : NB D ds) {v : Int} (hw : (Lit.int .i64 v).wf = true) {w : World} {base : Nat} {val : Value} {zs : List Int} (ho : w.ownsInts base 3 .i64 val zs) (hat : D.atKey (.int .i64 v) .nil = rowDatum .i64 val zs) : zs = adjD ds v := by
  rw [h.2 v hw] at hat
  unfold dat at hat
  rcases ho.datum (H := H) with ⟨h1, h2⟩ | h1 <;> rw [h1] at hat
  · split at hat
    · next q => rw [h2, q]
    · cases hat
  · split at hat
    · cases hat
    · have := lits_inj (by simpa using hat)
      exact this.symm
theorem NB.put {D : DataW H} {ds : List (Int × Int)} (h : NB D ds) {a b : Int} (ha : (Lit.int .i64 a).wf = true) : NB (D.put (.int .i64 a) (.slice (ChangeShapes.lits .i64 (adjD ds a ++ [b])) [])) (ds ++ [(a, b)]) := by
  refine ⟨h.1.put _ _, fun v hv => ?_⟩
  rw [adjD_snoc]
  by_cases e : a = v
  · subst e
    rw [atKey_put_same h.1 (by simp [WideAt.IsKeyLit]), if_pos rfl]
    simp [dat]
  · rw [atKey_put_other (by intro q; injection q with _ q; exact e q.symm), if_neg e, List.append_nil]
    exact h.2 v hv
end
theorem grown_of_below {w w1 : World} (h : Below w.heap.size w w1) : w.grownBy w1 none := ⟨h.os, h.tape, h.output, h.size, fun i hi _ => h.block i hi⟩
theorem put4_grown {w w1 : World} {g : Nat} {a b c d : Int} (h : Below w.heap.size w w1) (hg : w.heap.size ≤ g) : w.grownBy (put4 w1 g a b c d) none := grown_of_below (put4_below h hg)
/-- What a round keeps: the map, the neighbours so far, and that no row of theirs is the variable's block. -/
structure Gr {H : Type} (W : World) (B n : Nat) (ds : List (Int × Int)) (g : Nat) (D : DataW H) : Prop where
  own : W.ownsGroups (H := H) Try.prog 3 (B + 1) 3 .i64 B n D
  nb : NB D ds
  sh : W.Shuns B (fun k => k = g)
  lt : g < W.heap.size
  ne : g ≠ B
theorem isK {v : Value} {l : Lit} (h : keyOf Try.prog 3 v = some l) : MapKept.IsKey (.int .i64) v := by
  have h2 : mapKey Try.prog 3 v = some l := by simpa [keyOf, Try.underlying3] using h
  obtain ⟨d', hd', h1, _⟩ := WideShapes.mapKey_isKey h2
  rw [Try.underlying3] at hd'
  cases hd'
  exact h1
/-- A look-up reads the map's block alone. -/
theorem look_same {w w' : World} {b : Nat} {es : Array MapEntry} {clock : Nat} (hb : w.heap[b]? = some (.map es clock)) (hb' : w'.heap[b]? = some (.map es clock)) (hkeys : ∀ x ∈ es.toList, ∃ l, keyOf Try.prog 3 x.key = some l) {a : Int} (ha : (Lit.int .i64 a).wf = true) {v : Value}
    (h : (Instr.lookup 62 (.map (some b)) (.int .i64 a) false).run Try.prog w = .ok v w) : (Instr.lookup 62 (.map (some b)) (.int .i64 a) false).run Try.prog w' = .ok v w' := by
  have hkey : keyOf Try.prog 3 (.int .i64 a) = some (.int .i64 a) := keyOf_int_mk Try.underlying3 ha
  have hks : ∀ y ∈ es.toList, MapKept.IsKey (.int .i64) y.key := fun y hy => by
    obtain ⟨l, hl⟩ := hkeys y hy
    exact isK hl
  rcases MapKept.findNow_spec (isK hkey) es.toList 0 hks with ⟨h1, _⟩ | ⟨j, e0, h1, _, _⟩
  · have f := fun x : World => MapKept.run_findKey (w := x) Try.underlying3 h1
    have e1 : ∀ x : World, x.heap[b]? = some (.map es clock) → (Instr.lookup 62 (.map (some b)) (.int .i64 a) false).run Try.prog x = .ok (.slice none 0 0) x := fun x hx => by
      simp [Instr.lookup, run_underlying Try.underlying62, MapKept.run_getObj_map hx, keyI.check x _ hkey, f x, zeroS x, Result.andThen]
    rw [e1 w hb] at h
    obtain rfl : Value.slice none 0 0 = v := by simpa using h
    exact e1 w' hb'
  · have f := fun x : World => MapKept.run_findKey (w := x) Try.underlying3 h1
    have e1 : ∀ x : World, x.heap[b]? = some (.map es clock) → (Instr.lookup 62 (.map (some b)) (.int .i64 a) false).run Try.prog x = .ok e0.val x := fun x hx => by
      simp [Instr.lookup, run_underlying Try.underlying62, MapKept.run_getObj_map hx, keyI.check x _ hkey, f x, Result.andThen]
    rw [e1 w hb] at h
    obtain rfl : e0.val = v := by simpa using h
    exact e1 w' hb'
/-- What one look-up, append and store of a round need. -/
structure Ask {H : Type} (W : World) (B n : Nat) (ds : List (Int × Int)) (g : Nat) (D : DataW H) (a : Int) (v : Value) : Prop where
  run : ∀ W' : World, W'.heap[B]? = W.heap[B]? → (Instr.lookup 62 (.map (some B)) (.int .i64 a) false).run Try.prog W' = .ok v W'
  own : W.ownsInts (B + 1) 3 .i64 v (adjD ds a)
  off : v.ownBlock ≠ some g
  back : W.groupBack (H := H) Try.prog 62 3 (B + 1) 3 .i64 B n D (.int .i64 a) (.int .i64 a) v
theorem Gr.ask {H : Type} {W : World} {B n : Nat} {ds : List (Int × Int)} {g : Nat} {D : DataW H} (h : Gr W B n ds g D) (hn : n < maxLen) (a : Int) (ha : (Lit.int .i64 a).wf = true) : ∃ v, Ask W B n ds g D a v := by
  have hk : keyOf Try.prog 3 (.int .i64 a) = some (.int .i64 a) := keyOf_int_mk Try.underlying3 ha
  have hd : (W.drew).ownsGroups (H := H) Try.prog 3 (B + 1) 3 .i64 B n D := h.own
  obtain ⟨v, zs, hrun, hat, hoi, hzl, hback⟩ := hd.at keyI Try.underlying62 (zeroS _) hn hk
  obtain rfl := h.nb.read ha hoi hat
  refine ⟨v, fun W' hW => ?_, hoi, ?_, fun w1 v' zs' hg => hback w1 v' zs' ⟨hg.os, hg.tape, hg.output, hg.size, hg.block⟩⟩
  · obtain ⟨es, clock, hb, F, _⟩ := hd
    exact look_same hb (hW.trans hb) F.keys ha hrun
  obtain ⟨es, clock, hb, F, _⟩ := hd
  rcases Maps.fit_look false keyI Try.underlying62 (zeroS _) hb F hk with ⟨hrun', _, _⟩ | ⟨e0, y, hm0, _, hrun', _, _, _⟩
  · rw [hrun] at hrun'
    obtain rfl : v = .slice none 0 0 := by simpa using hrun'
    intro hg'
    cases hg'
  · rw [hrun] at hrun'
    obtain rfl : v = e0.val := by simpa using hrun'
    exact fun hg' => h.sh es clock hb e0 hm0 g hg' rfl
/-- Behind the append: the store is known, and what it leaves. -/
theorem Ask.store {H : Type} {W W1 : World} {B n : Nat} {ds : List (Int × Int)} {g : Nat} {D : DataW H} {a b : Int} {v : Value} (h : Ask W B n ds g D a v) (hG : Gr W B n ds g D) (hn : n < maxLen) (ha : (Lit.int .i64 a).wf = true) (hbw : (Lit.int .i64 b).wf = true) (hds : ds.length ≤ n) {gg cap : Nat}
    (hown : W1.ownsRow (B + 1) 3 1 (.slice (some ⟨gg, 0, none⟩) ((adjD ds a).length + 1) cap) ((adjD ds a).length + 1) ((adjD ds a).map (Value.int .i64) ++ [.int .i64 b])) (hgr : W.grownBy W1 v.ownBlock) (hat : v.ownBlock = some gg ∨ gg = W.heap.size + 1) :
    ∃ (w2 : World) (D2 : DataW H), (Instr.mapUpdate 62 (.map (some B)) (.int .i64 a) (.slice (some ⟨gg, 0, none⟩) ((adjD ds a).length + 1) cap)).run Try.prog W1 = .ok () w2 ∧ Gr w2 B (n + 1) (ds ++ [(a, b)]) g D2 ∧ (∀ p x, p.block = g → W.cell? p = some x → w2.cell? p = some x) ∧ ∀ X, Below X W W → X ≤ W.heap.size → X ≤ B → Below X W w2 := by
  have hk : keyOf Try.prog 3 (.int .i64 a) = some (.int .i64 a) := keyOf_int_mk Try.underlying3 ha
  have ho2 := h.own.appended hown hbw
  have hlen := adjD_len ds a
  have hloc : (Value.slice (some ⟨gg, 0, none⟩) ((adjD ds a).length + 1) cap).ownBlock = v.ownBlock ∨ ∃ k, (Value.slice (some ⟨gg, 0, none⟩) ((adjD ds a).length + 1) cap).ownBlock = some k ∧ W.heap.size ≤ k := by
    rcases hat with q | q
    · exact .inl (by rw [q]; rfl)
    · exact .inr ⟨gg, rfl, by omega⟩
  have hg1 : gg ≠ g := by
    rcases hat with q | q
    · intro e; subst e; exact h.off q
    · have := hG.lt; omega
  obtain ⟨w2, hrun, r1, r2⟩ := h.back W1 _ _ hgr ho2 (by simp; omega) hloc
  have r3 : w2.Shuns B (fun k => k = g) := by
    obtain ⟨es, clock, hb, F, hs, _, hbb, _⟩ := hG.own
    have hblt : B < W.heap.size := (Array.getElem?_eq_some_iff.1 hb).1
    have hb1 : W1.heap[B]? = some (.map es clock) := (hgr.block B hblt (fun e1 => by have := (h.own.1.lt B e1.symm).1; omega)).trans hb
    obtain ⟨es', clock', hb2, hwho⟩ := stored_who keyI Try.underlying62 hb1 F (Nat.lt_of_le_of_lt hs hn) hk hrun
    intro es2 clock2 hb2' y hy k hyk
    obtain ⟨rfl, rfl⟩ : es' = es2 ∧ clock' = clock2 := by rw [hb2] at hb2'; simpa using hb2'
    rcases hwho y hy with ⟨hy0, _⟩ | ⟨_, hval⟩
    · exact hG.sh es clock hb y hy0 k hyk
    · rw [hval] at hyk
      have : gg = k := by simpa [Value.ownBlock] using hyk
      omega
  refine ⟨w2, _, hrun, ⟨r1, ?_, r3, by have := hG.lt; have := hgr.size; have := r2.size; omega, hG.ne⟩, fun p x hp hx => ?_, fun X hX hX1 hX2 => ?_⟩
  · rw [ho2.datum_pos (by simp)]
    exact hG.nb.put ha
  · have l0 : p.block < W.heap.size := by rw [hp]; exact hG.lt
    rw [r2.cell_far p (by have := hgr.size; omega) (by rw [hp]; simpa using hG.ne), hgr.cell_far p l0 (by rw [hp]; exact Ne.symm h.off)]
    exact hx
  · exact (hX.grown hgr hX1 (fun j hj => by have := (h.own.1.lt j hj).1; omega)).grown r2 (Nat.le_trans hX1 hgr.size) (fun j hj => by cases hj; exact hX2)
theorem gr_box {H : Type} {w wr w29 : World} {B n gb : Nat} {ds : List (Int × Int)} {D : DataW H} (hg : gb = wr.heap.size) (hbox : w29.heap[gb]? = some (.cells #[.int .i64 0, .int .i64 0, .int .i64 0, .int .i64 0] 32 (0, 0))) (hb : Below wr.heap.size wr w29)
    (HG : (wr.ownsGroups (H := H) Try.prog 3 (B + 1) 3 .i64 B n D ∧ NB D ds) ∧ B + 1 ≤ wr.heap.size) (hW : Below w.heap.size w wr) (a b c d : Int) :
    Gr (put4 w29 gb a b c d) B n ds gb D ∧ (put4 w29 gb a b c d).heap[gb]? = some (.cells #[.int .i64 a, .int .i64 b, .int .i64 c, .int .i64 d] 32 (0, 0)) ∧ Below w.heap.size w (put4 w29 gb a b c d) := by
  obtain ⟨⟨ho, hn⟩, hB⟩ := HG
  have hgr : wr.grownBy (put4 w29 gb a b c d) none := put4_grown hb (by omega)
  have hB2 := put4_blk (a := a) (b := b) (c := c) (d := d) hbox
  have hs : wr.Shuns B (fun k => k = gb) := (show wr.Shuns B (fun _ => False) from fun _ _ _ _ _ _ _ h => h).reno ho (fun g q => .inr (by omega))
  refine ⟨⟨ho.kept hgr (by simp) (ho.rowsAbove (by simp)), hn, hs.kept hgr (by omega) (by simp), (Array.getElem?_eq_some_iff.1 hB2).1, by omega⟩, hB2, ?_⟩
  exact put4_below (hW.trans (hb.mono hW.size)) (by have := hW.size; omega)
set_option maxHeartbeats 8000000 in
set_option maxRecDepth 100000 in
theorem neigh_calls {H : Type} (A1 : Option Addr) (c1 : Nat) (l : List Run) (w : World) (hr1 : Kd.C k32 w A1 l.length l) (hc1 : l.length ≤ c1) (hl : l.length ≤ 12) (hwf : ∀ r ∈ l, (Lit.int .i64 r.f0).wf = true ∧ (Lit.int .i64 r.f1).wf = true) :
    Calls Try.prog 46 #[.slice A1 l.length c1] w fun e w' => e = .returned (.map (some w.heap.size)) ∧ ((∃ D, w'.ownsGroups (H := H) Try.prog 3 (w.heap.size + 1) 3 .i64 w.heap.size (2 * l.length) D ∧ NB D (dirs l)) ∧ w.heap.size + 1 ≤ w'.heap.size) ∧ Below w.heap.size w w' := by
  have hmm := @run_makeMap Try.prog
  obtain ⟨i0, hi0, hz0, hz1, hz2⟩ := info_parts info_int
  have HR1 := Aside0.mk hr1
  have HC1 := Aside0.mk hc1
  have HL := Aside0.mk hl
  have HWF := Aside0.mk hwf
  clear hr1 hc1 hl hwf
  go_enter Try.func46, Try.ntmps46
  go_wp2
  go_loopw [9] (fun v9 wr => ∃ i : Nat, i ≤ l.length ∧ v9 = .int .i64 i ∧ Aside0 ((∃ D, wr.ownsGroups (H := H) Try.prog 3 (w.heap.size + 1) 3 .i64 w.heap.size (2 * i) D ∧ NB D (dirs (l.take i))) ∧ w.heap.size + 1 ≤ wr.heap.size) ∧ Aside0 (Below w.heap.size w wr)) (fun v9 _ => l.length - (intOf v9).toNat)
  case atStart => exact ⟨0, Nat.zero_le _, rfl, ⟨⟨_, World.ownsGroups_made _ _ _ _ _, by simpa [dirs] using NB.nil⟩, by simp⟩, ⟨(Below.refl _ _).alloc (Nat.le_refl _) _⟩⟩
  case round =>
    obtain ⟨i, hi, rfl, HG, HW⟩ := hrel
    by_cases hlt : i < l.length
    · have hb2 := HW.out
      obtain ⟨ad, e', x0, x1, x2, x3⟩ := at_T32 HR1.out i (by omega) (by omega)
      subst e'
      rw [Int.toNat_natCast] at x0 x1 x2 x3
      replace x0 := (hb2.cell (World.block_lt_of_cell? w _ x0)).trans x0
      replace x1 := (hb2.cell (World.block_lt_of_cell? w _ x1)).trans x1
      replace x2 := (hb2.cell (World.block_lt_of_cell? w _ x2)).trans x2
      replace x3 := (hb2.cell (World.block_lt_of_cell? w _ x3)).trans x3
      have q0 := eq_true (show (0 : Int) ≤ (i : Int) by omega)
      have q1 := eq_true (show (i : Int) < (l.length : Int) by omega)
      obtain ⟨⟨D, HG0⟩, hB⟩ := HG.out
      clear HG
      have HG := Aside0.mk (And.intro HG0 hB)
      clear HG0 hB
      go_upto_region 5 with (first | ((with_reducible refine gate_dst (N := 5) rfl ?_); (try (refine gate_guard (by rfl) ?_; dsimp only)); refine box_event ?hg (N := 5) ?hd (cs := #[.int .i64 0, .int .i64 0, .int .i64 0, .int .i64 0]) (t := 32) ?hr ?_; (case hd => rfl); (case hg => rfl); (case hr => exact qq16); intro gb hg w29 hbox hb; have KK := Aside0.mk (gr_box hg hbox hb HG.out hb2 (rd_T32 l i).f0 (rd_T32 l i).f1 (rd_T32 l i).f2 (rd_T32 l i).f3); have hcz0 : w29.cell? ⟨gb, 0, none⟩ = some (.int .i64 0) := (blk_cell hbox 0).trans rfl; have hcz1 : w29.cell? ⟨gb, 1, none⟩ = some (.int .i64 0) := (blk_cell hbox 1).trans rfl; have hcz2 : w29.cell? ⟨gb, 2, none⟩ = some (.int .i64 0) := (blk_cell hbox 2).trans rfl; have hcz3 : w29.cell? ⟨gb, 3, none⟩ = some (.int .i64 0) := (blk_cell hbox 3).trans rfl; have hfz0 := blk_frozen hbox 0; have hfz1 := blk_frozen hbox 1; have hfz2 := blk_frozen hbox 2; have hfz3 := blk_frozen hbox 3; clear hbox hb hg))
      clear hcz0 hcz1 hcz2 hcz3 hfz0 hfz1 hfz2 hfz3 x0 x1 x2 x3 hb2 HW HG
      replace KK := KK.out
      unfold put4 at KK
      generalize ((((w29.setCell ⟨gb, 0, none⟩ (.int .i64 (rd_T32 l i).f0)).setCell ⟨gb, 1, none⟩ (.int .i64 (rd_T32 l i).f1)).setCell ⟨gb, 2, none⟩ (.int .i64 (rd_T32 l i).f2)).setCell ⟨gb, 3, none⟩ (.int .i64 (rd_T32 l i).f3)) = w4 at KK ⊢
      obtain ⟨KG, Kblk, Kbe⟩ := KK
      have hT : l.take (i + 1) = l.take i ++ [rd_T32 l i] := take_rd l i hlt
      have e9 : wrap64 ((i : Int) + 1) = ((i + 1 : Nat) : Int) := by rw [nw64 (by omega) (by have := HL.out; omega)]; omega
      have hmem : rd_T32 l i ∈ l := by simp [rd_T32, hlt]
      have hwfi := HWF.out _ hmem
      have hds : (dirs (l.take i)).length ≤ 2 * i := by rw [dirs_len]; simp; omega
      have hlen1 := adjD_len (dirs (l.take i)) (rd_T32 l i).f0
      have hl12 := HL.out
      obtain ⟨v, hA⟩ := KG.ask (by unfold maxLen; omega) (rd_T32 l i).f0 hwfi.1
      have k0 : w4.cell? ⟨gb, 0, none⟩ = some (.int .i64 (rd_T32 l i).f0) := (blk_cell Kblk 0).trans rfl
      have k1 : w4.cell? ⟨gb, 1, none⟩ = some (.int .i64 (rd_T32 l i).f1) := (blk_cell Kblk 1).trans rfl
      have hrun := hA.run w4.drew rfl
      have hBlt : w.heap.size < w4.heap.size := by obtain ⟨es, clock, hb, _⟩ := KG.own; exact (Array.getElem?_eq_some_iff.1 hb).1
      have hruna := hA.run (w4.alloc (.cells #[.int .i64 (rd_T32 l i).f1] 3)).drew (heap_alloc_old w4 _ hBlt)
      have hbB : gb ≠ w.heap.size := KG.ne
      have hsz : w.heap.size + 1 ≤ w4.heap.size := by omega
      have HA := Aside0.mk hA
      have HKG := Aside0.mk KG
      have HKbe := Aside0.mk Kbe
      have HWFi := Aside0.mk hwfi
      clear hA KG Kbe hwfi
      go_region_held_law (fun w' => w'.cell? ⟨gb, 0, none⟩ = some (.int .i64 (rd_T32 l i).f0) ∧ w'.cell? ⟨gb, 1, none⟩ = some (.int .i64 (rd_T32 l i).f1))
        (first
          | (go_split_ands; refine ⟨by go_keep, by go_keep⟩)
          | (go_split_ands; exact ⟨m0, m1⟩)
          | (go_split_ands; refine ⟨?_, ?_⟩ <;> (rw [hgrow.cell_far _ (by simp; have := HKG.out.lt; omega) (Ne.symm HA.out.off)]; assumption)))
        ((refine step_append_lies _ (by rfl) _ _ _ (by rfl) (w.heap.size + 1) 3 i0 _ 1 8 Try.underlying27 hi0 hz0 hz1 hz2 rfl (by omega) v (adjD (dirs (l.take i)) (rd_T32 l i).f0).length ((adjD (dirs (l.take i)) (rd_T32 l i).f0).map (Value.int .i64)) (by rfl) ((HA.out.own.1.alloc _).drew)
            ⟨w4.heap.size, 0, none⟩ 1 1 [.int .i64 (rd_T32 l i).f1] (by rfl) (by rfl) (World.news_of_block (cs := #[.int .i64 (rd_T32 l i).f1]) (t := 3) (fr := (0, 0)) (heap_alloc_new w4 _)) (by simp [Value.oneCell'])
            (by omega) (by unfold maxLen; omega) (by omega) (by simp; omega) (w4.heap.size + 1) (by simp) ?_; intro gg cap w1 hown1 hgrow hat hlt1; obtain ⟨w2, D2, hrun2, hG2, hce, hbe⟩ := HA.out.store HKG.out (by unfold maxLen; omega) HWFi.out.1 HWFi.out.2 hds hown1 ((World.grownBy_alloc w4 _ _).trans ⟨hgrow.os, hgrow.tape, hgrow.output, hgrow.size, hgrow.block⟩) hat; have m0 := hce ⟨gb, 0, none⟩ _ rfl k0; have m1 := hce ⟨gb, 1, none⟩ _ rfl k1))
      all_goals (
        go_upto_region 6 with (fail)
        have hds2 : (dirs (l.take i) ++ [((rd_T32 l i).f0, (rd_T32 l i).f1)]).length ≤ 2 * i + 1 := by rw [List.length_append]; simp; omega
        have hlen2 := adjD_len (dirs (l.take i) ++ [((rd_T32 l i).f0, (rd_T32 l i).f1)]) (rd_T32 l i).f1
        clear k0 k1 hrun hruna hBlt hbB hsz HKG HA
        obtain ⟨v, hA⟩ := hG2.ask (by unfold maxLen; omega) (rd_T32 l i).f1 HWFi.out.2
        have hrunb := hA.run w2.drew rfl
        have hBlt2 : w.heap.size < w2.heap.size := by obtain ⟨es, clock, hb, _⟩ := hG2.own; exact (Array.getElem?_eq_some_iff.1 hb).1
        have hrunc := hA.run (w2.alloc (.cells #[.int .i64 (rd_T32 l i).f0] 3)).drew (heap_alloc_old w2 _ hBlt2)
        have hbB2 : gb ≠ w.heap.size := hG2.ne
        have hsz2 : w.heap.size + 1 ≤ w2.heap.size := by omega
        have HA2 := Aside0.mk hA
        have HKG2 := Aside0.mk hG2
        clear hA hG2
        go_region_held_law (fun w' => w'.cell? ⟨gb, 0, none⟩ = some (.int .i64 (rd_T32 l i).f0) ∧ w'.cell? ⟨gb, 1, none⟩ = some (.int .i64 (rd_T32 l i).f1))
          (first
            | (go_split_ands; refine ⟨by go_keep, by go_keep⟩)
            | (go_split_ands; exact ⟨n0, n1⟩)
            | (go_split_ands; refine ⟨?_, ?_⟩ <;> (rw [hgrow.cell_far _ (by simp; have := HKG2.out.lt; omega) (Ne.symm HA2.out.off)]; assumption)))
          ((refine step_append_lies _ (by rfl) _ _ _ (by rfl) (w.heap.size + 1) 3 i0 _ 1 8 Try.underlying27 hi0 hz0 hz1 hz2 rfl (by omega) v (adjD (dirs (l.take i) ++ [((rd_T32 l i).f0, (rd_T32 l i).f1)]) (rd_T32 l i).f1).length ((adjD (dirs (l.take i) ++ [((rd_T32 l i).f0, (rd_T32 l i).f1)]) (rd_T32 l i).f1).map (Value.int .i64)) (by rfl) ((HA2.out.own.1.alloc _).drew)
              ⟨w2.heap.size, 0, none⟩ 1 1 [.int .i64 (rd_T32 l i).f0] (by rfl) (by rfl) (World.news_of_block (cs := #[.int .i64 (rd_T32 l i).f0]) (t := 3) (fr := (0, 0)) (heap_alloc_new w2 _)) (by simp [Value.oneCell'])
              (by omega) (by unfold maxLen; omega) (by omega) (by simp; omega) (w2.heap.size + 1) (by simp) ?_; intro gg cap w1 hown1 hgrow hat hlt1; obtain ⟨w3, D3, hrun3, hG3, hce3, hbe3⟩ := HA2.out.store HKG2.out (by unfold maxLen; omega) HWFi.out.2 HWFi.out.1 hds2 hown1 ((World.grownBy_alloc w2 _ _).trans ⟨hgrow.os, hgrow.tape, hgrow.output, hgrow.size, hgrow.block⟩) hat; have n0 := hce3 ⟨gb, 0, none⟩ _ rfl m0; have n1 := hce3 ⟨gb, 1, none⟩ _ rfl m1))
        all_goals (
          go_wp2
          go_roundw
          case rel =>
            refine ⟨i + 1, by omega, by first | rfl | rw [e9], ⟨⟨D3, hG3.own, ?_⟩, ?_⟩, ⟨(HKbe.out.trans (hbe _ (Below.refl _ _) HKbe.out.size (Nat.le_refl _))).trans (hbe3 _ (Below.refl _ _) (by omega) (Nat.le_refl _))⟩⟩
            · rw [hT, dirs_snoc]; exact hG3.nb
            · obtain ⟨es, clock, hb, _⟩ := hG3.own; exact (Array.getElem?_eq_some_iff.1 hb).1
          case measure => first | exact meas_up2 hlt | exact meas_up hlt e9))
    · obtain rfl : i = l.length := by omega
      go_wp2
      go_ret
      have h := HG.out
      rw [List.take_length] at h
      exact ⟨rfl, h, HW.out⟩
end Go.Proofs.Ytmcfhmflncghiaa.LinkW
namespace Go.Proofs.Ytmcfhmflncghiaa.LinkW
open Go.RowKit Go.Proofs.Ytmcfhmflncghiaa.Q Go.Proofs.Ytmcfhmflncghiaa.Pure Go.Proofs.YtmcfhmflncghiaaW.PrintWords Go.Proofs.YtmcfhmflncghiaaW.PrintLast Go.Proofs.YtmcfhmflncghiaaW.PrintMore
set_option linter.unusedVariables false
set_option linter.unusedSimpArgs false
theorem mul_one (n : Nat) (h : 2 ≤ n ∧ n ≤ 6) : bits_Mul.f 1 (n : Int) = some (0, (n : Int)) := by
  obtain rfl | rfl | rfl | rfl | rfl : n = 2 ∨ n = 3 ∨ n = 4 ∨ n = 5 ∨ n = 6 := by omega
  all_goals rfl
theorem wrap_u (n : Nat) (h : n ≤ 6) : IntKind.u64.wrap (n : Int) = n := by
  obtain rfl | rfl | rfl | rfl | rfl | rfl | rfl : n = 0 ∨ n = 1 ∨ n = 2 ∨ n = 3 ∨ n = 4 ∨ n = 5 ∨ n = 6 := by omega
  all_goals rfl
theorem made_eq (n : Nat) : madeCells #[Value.int .i64 0] n = Array.replicate n (Value.int .i64 0) := by
  have := toList_madeCells_one (Value.int .i64 0) n
  apply Array.toList_inj.1
  rw [this]; simp
theorem size_int : (Try.prog.info? 3).map (·.size) = some 1 := by kernel_rfl
theorem new_row (w : World) (nd n : Nat) : ((w.drewN nd).alloc (.cells (Array.replicate n (Value.int .i64 0)) 3)).heap[w.heap.size]? = some (.cells (List.replicate n (Value.int .i64 0)).toArray 3 (0, 0)) := by
  have := heap_alloc_new (w.drewN nd) (.cells (Array.replicate n (Value.int .i64 0)) 3)
  simpa using this
theorem new_cell {w : World} {a : Addr} {v : Value} (hx : w.cell? a = some v) (nd : Nat) (o : Obj) : ((w.drewN nd).alloc o).cell? a = some v := by
  have h0 : (w.drewN nd).cell? a = some v := by simpa using hx
  exact (World.cell?_of_block (heap_alloc_old (w.drewN nd) o (World.block_lt_of_cell? _ a h0))).trans h0
theorem one_src {w : World} {a : Addr} {v : Value} (h : w.cell? a = some v) : ∀ (j : Nat) (x : Value), [v][j]? = some x → w.cell? (a.add j) = some x := by
  intro j x hj
  match j, hj with
  | 0, hj =>
    simp at hj
    subst hj
    simpa [Addr.add] using h
structure Halt1 (p : Prop) : Prop where
  out : p
/-- The row so far. -/
def row2 (n m : Nat) : List Value := List.replicate m (.int .i64 (-1)) ++ List.replicate (n - m) (.int .i64 0)
theorem row2_one (n : Nat) (h : 1 ≤ n) : row2 n 1 = splice (List.replicate n (Value.int .i64 0)) 0 [.int .i64 (-1)] := by
  obtain ⟨k, rfl⟩ : ∃ k, n = k + 1 := ⟨n - 1, by omega⟩
  simp [row2, splice]
theorem wrap_add (m k : Nat) (hk : k ≤ 6) (hm : m ≤ 6) : IntKind.i64.wrap ((m : Int) + (k : Int)) = ((m + k : Nat) : Int) := by
  obtain rfl | rfl | rfl | rfl | rfl | rfl | rfl : m = 0 ∨ m = 1 ∨ m = 2 ∨ m = 3 ∨ m = 4 ∨ m = 5 ∨ m = 6 := by omega
  all_goals (obtain rfl | rfl | rfl | rfl | rfl | rfl | rfl : k = 0 ∨ k = 1 ∨ k = 2 ∨ k = 3 ∨ k = 4 ∨ k = 5 ∨ k = 6 := by omega) <;> rfl
theorem row2_len (n m : Nat) (h : m ≤ n) : (row2 n m).length = n := by simp [row2]; omega
theorem row2_step (n m : Nat) (h : m < n) : row2 n (m + min m (n - m)) = splice (row2 n m) m (List.replicate (min m (n - m)) (Value.int .i64 (-1))) := by
  unfold row2 splice
  apply List.ext_getElem
  · simp; omega
  · intro i h1 h2
    simp only [List.getElem_append, List.getElem_replicate, List.length_replicate, List.getElem_take, List.getElem_drop, List.length_take, List.length_append, List.length_drop]
    repeat' split
    all_goals first | rfl | omega
theorem row2_src {W : World} {g n m : Nat} (hg : W.heap[g]? = some (.cells (row2 n m).toArray 3 (0, 0))) (h : m ≤ n) : ∀ (j : Nat) (x : Value), (List.replicate (min m (n - m)) (Value.int .i64 (-1)))[j]? = some x → W.cell? ((⟨g, 0, none⟩ : Addr).add j) = some x := by
  intro j x hj
  rw [List.getElem?_replicate] at hj
  split at hj
  · obtain rfl := Option.some.inj hj
    have e : (⟨g, 0, none⟩ : Addr).add j = ⟨g, j, none⟩ := by
      unfold Addr.add
      split
      · next h => simp_all
      · simp
    rw [e]
    refine (blk_cell hg j).trans ?_
    have : j < (List.replicate m (Value.int .i64 (-1))).length := by simp; omega
    simp [row2, List.getElem?_append_left this, List.getElem?_replicate]
    omega
  · cases hj
set_option maxHeartbeats 4000000 in
set_option maxRecDepth 100000 in
theorem repeat_calls (n gx : Nat) (h : 2 ≤ n ∧ n ≤ 6) (w : World) (hx : w.cell? ⟨gx, 0, none⟩ = some (.int .i64 (-1))) :
    Calls Try.prog 47 #[.slice (some ⟨gx, 0, none⟩) 1 1, .int .i64 n] w fun e w' => ∃ g, e = .returned (.slice (some ⟨g, 0, none⟩) n n) ∧ w'.heap[g]? = some (.cells (List.replicate n (Value.int .i64 (-1))).toArray 3 (0, 0)) ∧ w.heap.size ≤ g ∧ Below w.heap.size w w' := by
  have hM := mul_one n h
  have hu := wrap_u n h.2
  have p0 : decide ((n : Int) < 0) = false := decide_eq_false (by omega)
  have p1 : decide ((9223372036854775807 : Int) < n) = false := decide_eq_false (by omega)
  have hmk := run_make_row' (P := Try.prog) 27 3 (.int .i64 0) 8 Try.underlying27 info_int rfl .i64 .i64 n (by omega) (by omega)
  go_enter Try.func47, Try.ntmps47
  have hmd := made_eq n
  go_wp2_with (first | (go_at_call 63; (with_reducible refine (bits_Mul.calls _ _ _ _ _ hM).mono ?_); rintro e w' ⟨rfl, ⟨nd, rfl⟩⟩) | ((with_reducible refine gate_builtin (b := .copy) (xs := #[.tmp 31, .tmp 32]) rfl ?_); refine Halt1.out ?_))
  refine Halt1.mk ?_
  refine wpList_copy_splice (by rfl) (.tmp 31) (.tmp 32) 27 27 (by rfl) 3 Try.underlying27 size_int (some ⟨w.heap.size, 0, none⟩) (some ⟨gx, 0, none⟩) n n 1 1 (by rfl) (by rfl) w.heap.size 0 (List.replicate n (.int .i64 0)) 3 (new_row w nd n) [.int .i64 (-1)] (by show 1 = min 1 n; omega) (fun _ => ⟨rfl, ⟨gx, 0, none⟩, rfl, one_src (new_cell hx nd _)⟩) (by simp; omega) (by simp [Value.oneCell']) w.heap.size w (below_alloc (pw_below_drewN (Below.refl _ _) _) _) (Nat.le_refl _) ?_
  intro w2 HG2 hB2
  go_wp2
  replace HG2 := Aside0.mk HG2.out
  replace hB2 := Aside0.mk hB2
  go_loopw [8] (fun v8 wr => ∃ m : Nat, 1 ≤ m ∧ m ≤ n ∧ v8 = .int .i64 m ∧ Aside0 (wr.heap[w.heap.size]? = some (.cells (row2 n m).toArray 3 (0, 0))) ∧ Aside0 (Below w.heap.size w wr)) (fun v8 _ => n - (intOf v8).toNat)
  case atStart => exact ⟨1, Nat.le_refl _, by omega, rfl, ⟨by rw [row2_one n (by omega)]; exact HG2.out⟩, hB2⟩
  case round =>
    clear HG2 hB2
    obtain ⟨m, m1, m2, rfl, HG, HB⟩ := hrel
    by_cases hlt : m < n
    · have q0 := eq_true (show (0 : Int) ≤ (m : Int) by omega)
      have q1 := eq_true (show (m : Int) < (n : Int) by omega)
      have q2 := eq_true (show (m : Int) ≤ (n : Int) by omega)
      have hg : (wr.drew).heap[w.heap.size]? = some (.cells (row2 n m).toArray 3 (0, 0)) := HG.out
      have hb : Below w.heap.size w wr.drew := below_drew1 HB.out
      have hlen := row2_len n m m2
      have hmin : (List.replicate (min m (n - m)) (Value.int .i64 (-1))).length = Nat.min m (n - m) := List.length_replicate
      have hfit : m + (List.replicate (min m (n - m)) (Value.int .i64 (-1))).length ≤ (row2 n m).length := by rw [hlen, List.length_replicate]; omega
      have hone : ∀ v ∈ List.replicate (min m (n - m)) (Value.int .i64 (-1)), v.oneCell' = true := by intro v hv; rw [List.eq_of_mem_replicate hv]; rfl
      have hnm : ¬ n = m := by omega
      have hsrc := row2_src hg m2
      generalize hcs : List.replicate (min m (n - m)) (Value.int .i64 (-1)) = cs at hmin hfit hone hsrc
      generalize hcur : row2 n m = cur at hg hfit hlen
      replace hcs := Aside0.mk hcs
      replace hcur := Aside0.mk hcur
      go_wp2
      go_region_held_law (fun w' => True) (exact trivial)
       ((refine step_copy_splice (by rfl) (.tmp 41) (.tmp 44) 27 27 (by rfl) 3 Try.underlying27 size_int (some ⟨w.heap.size, m, none⟩) (some ⟨w.heap.size, 0, none⟩) (n - m) (n - m) m n (by rfl) (by rfl) w.heap.size m cur 3 hg cs hmin (fun _ => ⟨rfl, ⟨w.heap.size, 0, none⟩, rfl, hsrc⟩) hfit hone w.heap.size w hb (Nat.le_refl _) ?_; intro w2 HG2 hB2; replace HG2 := Aside0.mk HG2.out; replace hB2 := Aside0.mk hB2))
      simp only [List.getElem_toArray, List.getElem_cons_succ, List.getElem_cons_zero, Act.put, List.setIfInBounds_toArray, List.set_cons_succ, List.set_cons_zero, goInt]
      have e9 : IntKind.i64.wrap ((m : Int) + ((Nat.min m (n - m) : Nat) : Int)) = ((m + min m (n - m) : Nat) : Int) := wrap_add m _ (show min m (n - m) ≤ 6 by omega) (by omega)
      have hrow : (splice cur m cs) = row2 n (m + min m (n - m)) := by rw [← hcs.out, ← hcur.out, row2_step n m hlt]
      have hms : n - (intOf (.int .i64 ((m + min m (n - m) : Nat) : Int))).toNat < n - (intOf (.int .i64 (m : Int))).toNat := by
        show n - (m + min m (n - m)) < n - m
        omega
      rw [e9]
      go_wp2
      go_roundw
      case rel => exact ⟨m + min m (n - m), by omega, by omega, rfl, ⟨by rw [← hrow]; exact HG2.out⟩, hB2⟩
      case measure => exact hms
    · obtain rfl : m = n := by omega
      go_wp2
      go_ret
      refine ⟨_, rfl, ?_, Nat.le_refl _, HB.out⟩
      have h := HG.out
      unfold row2 at h
      simpa using h
end Go.Proofs.Ytmcfhmflncghiaa.LinkW
namespace Go.Proofs.Ytmcfhmflncghiaa.LinkW
open Go.RowKit Go.WideMaps Go.Maps Go.Proofs.Ytmcfhmflncghiaa.Q Go.Proofs.Ytmcfhmflncghiaa.Pure Go.Proofs.YtmcfhmflncghiaaW.PrintWords Go.Proofs.YtmcfhmflncghiaaW.PrintLast Go.Proofs.YtmcfhmflncghiaaW.PrintMore
set_option linter.unusedVariables false
set_option linter.unusedSimpArgs false
/-! the closed form -/
def vis (s : Int) : List Int → List Int → List Int → Option (List Int × List Int)
  | [], o, op => some (o, op)
  | x :: xs, o, op => if 0 ≤ x ∧ x < (o.length : Int) then (if rd o x < 0 then (if op.length < 1000 then vis s xs (o.set x.toNat s) (op ++ [x]) else none) else vis s xs o op) else none
def fill (ds : List (Int × Int)) (s : Int) : Nat → List Int → List Int → Option (List Int)
  | 0, _, _ => none
  | k + 1, o, op => match op.getLast? with
    | none => some o
    | some v => if 0 ≤ v ∧ v < (o.length : Int) then (vis s (adjD ds v) o op.dropLast).bind fun p => fill ds s k p.1 p.2 else none
def outer (ds : List (Int × Int)) (n K : Nat) : Nat → Nat → List Int → Option (List Int)
  | 0, _, _ => none
  | k + 1, s, o => if s < n then (if rd o (s : Int) ≥ 0 then outer ds n K k (s + 1) o else (fill ds s K (o.set s (s : Int)) [(s : Int)]).bind fun o' => outer ds n K k (s + 1) o') else some o
/-! the world -/
structure Wd (WN W : World) (g : Nat) (o : List Int) : Prop where
  row : W.heap[g]? = some (.cells (nums .i64 o).toArray 3 (0, 0))
  be : Below WN.heap.size WN W
  le : WN.heap.size ≤ g
theorem Wd.cell {WN W : World} {g : Nat} {o : List Int} (h : Wd WN W g o) (x : Int) (h0 : 0 ≤ x) (h1 : x < (o.length : Int)) : W.cell? ⟨g, x.toNat, none⟩ = some (.int .i64 (rd o x)) := by
  refine (blk_cell h.row x.toNat).trans ?_
  have hl : x.toNat < o.length := by omega
  simp [nums, Go.Proofs.YtmcfhmflncghiaaW.PrintWords.rd, List.getElem?_eq_getElem hl, hl]
theorem Wd.cellN {WN W : World} {g : Nat} {o : List Int} (h : Wd WN W g o) (s : Nat) (h1 : s < o.length) : W.cell? ⟨g, s, none⟩ = some (.int .i64 (Go.Proofs.YtmcfhmflncghiaaW.PrintWords.rd o (s : Int))) := by
  have := h.cell (s : Int) (by omega) (by omega)
  rwa [Int.toNat_natCast] at this
theorem Wd.frozen {WN W : World} {g : Nat} {o : List Int} (h : Wd WN W g o) (i : Nat) : W.frozen? ⟨g, i, none⟩ = false := blk_frozen h.row i
theorem Wd.set {WN W : World} {g : Nat} {o : List Int} (h : Wd WN W g o) (i : Nat) (v : Int) : Wd WN (W.setCell ⟨g, i, none⟩ (.int .i64 v)) g (o.set i v) :=
  ⟨blk_put h.row i _ (by simp [nums, List.map_set]), h.be.setCell (p := ⟨g, i, none⟩) h.le _, h.le⟩
theorem Wd.alloc {WN W : World} {g : Nat} {o : List Int} (h : Wd WN W g o) (ob : Obj) : Wd WN (W.alloc ob) g o :=
  ⟨(heap_alloc_old W ob (blk_lt h.row)).trans h.row, h.be.alloc h.be.size _, h.le⟩
theorem set_grown (W : World) (g i : Nat) (u : Value) : W.grownBy (W.setCell ⟨g, i, none⟩ u) (some g) := ⟨rfl, rfl, rfl, by simp, fun k hk hne => Below.heap_setCell W ⟨g, i, none⟩ u k (fun e => hne (by rw [e]))⟩
theorem Wd.grown {WN W W1 : World} {g : Nat} {o : List Int} {v : Value} {n : Nat} {xs : List Value} (h : Wd WN W g o) (hg : W.grownBy W1 v.ownBlock) (ho : W.ownsRow (g + 1) 3 1 v n xs) : Wd WN W1 g o := by
  have hl := h.le
  exact ⟨(hg.block g (blk_lt h.row) (fun e => by have := (ho.lt g e.symm).1; omega)).trans h.row, h.be.grown hg h.be.size (fun j hj => by have := (ho.lt j hj).1; omega), hl⟩
/-- The last of a row, and the row without it. -/
theorem own_last {W : World} {base : Nat} {v : Value} {op : List Int} {x : Int} (h : W.ownsRow base 3 1 v (op ++ [x]).length (nums .i64 (op ++ [x]))) :
    ∃ b cap, v = .slice (some ⟨b, 0, none⟩) (op.length + 1) cap ∧ W.cell? ⟨b, op.length, none⟩ = some (.int .i64 x) ∧ op.length + 1 ≤ cap ∧ W.ownsRow base 3 1 (.slice (some ⟨b, 0, none⟩) op.length cap) op.length (nums .i64 op) := by
  rcases h.2 with ⟨_, q⟩ | ⟨b, cap, cur, rfl, hb, hg, h1, h2, h3, h4⟩
  · simp at q
  · have hl : (op ++ [x]).length = op.length + 1 := by simp
    rw [hl] at h h1 h4 ⊢
    refine ⟨b, cap, rfl, ?_, h1, ?_, .inr ⟨b, cap, cur, rfl, hb, hg, by omega, h2, h3, ?_⟩⟩
    · rw [h.cellAt op.length (by omega)]
      simp [nums]
    · simp [nums]
    · have e : cur.toList.take (op.length * 1) = (cur.toList.take ((op.length + 1) * 1)).take (op.length * 1) := by rw [List.take_take]; congr 1; omega
      rw [e, h4]
      simp [nums]
theorem new_cell0 (W : World) (v : Value) (t : TypeId) : (W.alloc (.cells #[v] t)).cell? ⟨W.heap.size, 0, none⟩ = some v := by simp
theorem row_own {W : World} {g base m : Nat} {o : List Int} (h : W.heap[g]? = some (.cells (nums .i64 o).toArray 3 (0, 0))) (hl : o.length = m) (hb : base ≤ g) (hm : m ≤ 6) : W.ownsRow base 3 1 (.slice (some ⟨g, 0, none⟩) m m) m (encs (Value.int .i64) o) :=
  ⟨by simp [encs, hl], .inr ⟨g, m, _, rfl, hb, h, Nat.le_refl _, by unfold maxLen; omega, by simp [nums, hl], by simp [nums, encs]; rw [← hl, ← List.map_take, List.take_length]⟩⟩
theorem nil_or_last (op : List Int) : op = [] ∨ ∃ (op' : List Int) (v : Int), op = op' ++ [v] := by
  rcases List.eq_nil_or_concat op with h | ⟨a, b, h⟩
  · exact .inl h
  · exact .inr ⟨a, b, by simpa using h⟩
theorem own_zero {W : World} {base : Nat} {v : Value} {xs : List Value} (h : W.ownsRow base 3 1 v ([] : List Int).length xs) : ∃ A c, v = .slice A 0 c := by
  rcases h.2 with ⟨rfl, _⟩ | ⟨b, cap, cur, rfl, _⟩
  · exact ⟨_, _, rfl⟩
  · exact ⟨_, _, rfl⟩
theorem own_kept {W W1 : World} {g : Nat} {v : Value} {n : Nat} {xs : List Value} (h : W.ownsRow (g + 1) 3 1 v n xs) (hg : W.grownBy W1 (some g)) : W1.ownsRow (g + 1) 3 1 v n xs :=
  h.kept hg (.inr fun e => by have := (h.lt g e).1; omega)
theorem own_app {W : World} {base : Nat} {v : Value} {op : List Int} {x : Int} (h : W.ownsRow base 3 1 v (op.length + 1) (nums .i64 op ++ [.int .i64 x])) : W.ownsRow base 3 1 v (op ++ [x]).length (nums .i64 (op ++ [x])) := by
  simpa [nums_append, nums] using h
/-- A look-up of the neighbours, in any later world. -/
theorem nb_look {H : Type} {WN : World} {B n : Nat} {D : DataW H} {ds : List (Int × Int)} (ho : WN.ownsGroups (H := H) Try.prog 3 (B + 1) 3 .i64 B n D) (hnb : NB D ds) (hn : n < maxLen) (a : Int) (ha : (Lit.int .i64 a).wf = true) :
    ∃ A c, (∀ W, Below WN.heap.size WN W → (Instr.lookup 62 (.map (some B)) (.int .i64 a) false).run Try.prog W = .ok (.slice A (adjD ds a).length c) W) ∧ (adjD ds a).length ≤ n ∧
      ∀ j : Nat, j < (adjD ds a).length → ∃ ad, A = some ad ∧ ∀ W, Below WN.heap.size WN W → W.cell? (ad.add j) = some (.int .i64 ((adjD ds a).getD j 0)) := by
  have hk : keyOf Try.prog 3 (.int .i64 a) = some (.int .i64 a) := keyOf_int_mk Try.underlying3 ha
  obtain ⟨v, zs, hrun, hat, hoi, hzl, _⟩ := ho.at keyI Try.underlying62 (zeroS _) hn hk
  obtain rfl := hnb.read ha hoi hat
  obtain ⟨es, clock, hb, F, _⟩ := ho
  have hB : B < WN.heap.size := (Array.getElem?_eq_some_iff.1 hb).1
  have hall : ∀ W, Below WN.heap.size WN W → (Instr.lookup 62 (.map (some B)) (.int .i64 a) false).run Try.prog W = .ok v W := fun W hW =>
    look_same hb ((hW.block B hB).trans hb) F.keys ha hrun
  have hown := hoi.1
  rcases hoi.1.2 with ⟨rfl, h0⟩ | ⟨g, cap, cur, rfl, _⟩
  · rw [h0]
    exact ⟨none, 0, hall, by omega, fun j hj => by omega⟩
  · refine ⟨some ⟨g, 0, none⟩, cap, hall, hzl, fun j hj => ⟨_, rfl, fun W hW => ?_⟩⟩
    have hc := World.ownsRow.cells hown (g := g) rfl j (.int .i64 ((adjD ds a).getD j 0)) (by simp [List.getElem?_eq_getElem hj, List.getD])
    exact (hW.cell (World.block_lt_of_cell? WN _ hc)).trans hc
set_option maxHeartbeats 8000000 in
set_option maxRecDepth 100000 in
theorem least_calls (m K0 k0 : Nat) (A1 : Option Addr) (c1 : Nat) (l : List Run) (w : World) (hr1 : Kd.C k32 w A1 l.length l) (hc1 : l.length ≤ c1) (hv : nvB (m : Int) l = true) (r : List Int) (h : outer (dirs l) m K0 k0 0 (List.replicate m (-1)) = some r) :
    Calls Try.prog 26 #[.int .i64 m, .slice A1 l.length c1] w fun e w' => ∃ v1_ : Value, e = .returned v1_ ∧ Kd.R (Kd.int .i64) 3 w' w.heap.size (fun _ => True) v1_ r ∧ Below w.heap.size w w' := by
  obtain ⟨i0, hi0, hz0, hz1, hz2⟩ := info_parts info_int
  have hn := nvB_n hv
  have hwf : ∀ r ∈ l, (Lit.int .i64 r.f0).wf = true ∧ (Lit.int .i64 r.f1).wf = true := fun r hr => by
    have := nvB_VL hv r hr
    exact ⟨WalkArith.wf_i64 (by omega), WalkArith.wf_i64 (by omega)⟩
  have HN := Aside0.mk (neigh_calls (H := Unit) A1 c1 l w hr1 hc1 hn.2.2 hwf)
  have HH := Aside0.mk h
  have hm2 : 2 ≤ m ∧ m ≤ 6 := by omega
  clear hr1 hc1 hwf h
  go_enter Try.func26, Try.ntmps26
  go_upto_region 2 with (go_at_call 46; (refine HN.out.mono ?_); rintro e WN ⟨rfl, ⟨⟨D, hNB⟩, hsz⟩, hbN⟩)
  clear HN
  go_upto_region 3 with (go_at_call 47; (refine (repeat_calls m _ hm2 _ (new_cell0 WN _ _)).mono ?_); rintro e WR ⟨g, rfl, hrow, hgl, hbR⟩)
  have hlN := Aside0.mk (show 2 * l.length < maxLen by unfold maxLen; omega)
  have HNB' := Aside0.mk (And.intro hNB hsz)
  have HBN := Aside0.mk hbN
  have hgN : WN.heap.size ≤ g := Nat.le_trans (by simp) hgl
  have HW0 : Wd WN WR g (List.replicate m (-1)) := ⟨by rw [hrow]; simp [nums], ((Below.refl _ _).alloc (Nat.le_refl _) _).trans (hbR.mono (by simp)), hgN⟩
  have HW00 := Aside0.mk HW0
  have HGN := Aside0.mk hgN
  clear hrow hbR HW0 hNB hsz hbN hv hgl hgN
  go_wp2
  go_loopg [18] k0 (fun kq v18 wr => ∃ (s : Nat) (o : List Int), v18 = .int .i64 s ∧ s ≤ m ∧ o.length = m ∧ Aside0 (outer (dirs l) m K0 kq s o = some r) ∧ Aside0 (kq ≤ k0) ∧ Aside0 (Wd WN wr g o))
  case atStart => exact ⟨0, _, rfl, by omega, by simp, HH, ⟨Nat.le_refl _⟩, HW00⟩
  case round =>
    clear HW00 HH
    obtain ⟨s, o, rfl, hs, hol, HA, HK, HW⟩ := hrel
    cases gk with
    | zero => exact absurd HA.out (by simp [outer])
    | succ k1 =>
      have H := HA.out
      clear HA
      rw [outer] at H
      by_cases hsm : s < m
      · rw [if_pos hsm] at H
        have q1 := eq_true (show (s : Int) < (m : Int) by omega)
        have q0 := eq_true (show (0 : Int) ≤ (s : Int) by omega)
        have e9 := Aside0.mk (show wrap64 ((s : Int) + 1) = ((s + 1 : Nat) : Int) by rw [nw64 (by omega) (by omega)]; omega)
        have x0 := HW.out.cellN s (by rw [hol]; exact hsm)
        by_cases c : Go.Proofs.YtmcfhmflncghiaaW.PrintWords.rd o (s : Int) ≥ 0
        · rw [if_pos c] at H
          have c1 : decide (0 ≤ Go.Proofs.YtmcfhmflncghiaaW.PrintWords.rd o (s : Int)) = true := decide_eq_true c
          replace H := Aside0.mk H
          clear c
          go_wp2
          go_roundg k1
          case measure => have := HK.out; omega
          case rel => exact ⟨s + 1, o, by first | rw [e9.out] | rfl, by omega, hol, H, ⟨by have := HK.out; omega⟩, HW⟩
        · rw [if_neg c] at H
          have c1 : decide (0 ≤ Go.Proofs.YtmcfhmflncghiaaW.PrintWords.rd o (s : Int)) = false := decide_eq_false c
          obtain ⟨o1, hf, H⟩ := Option.bind_eq_some_iff.1 H
          replace H := Aside0.mk H
          have HF := Aside0.mk hf
          clear c hf
          have f0 := HW.out.frozen s
          go_upto_region 8 with (fail)
          have hW2 := HW.out.set s (s : Int)
          clear x0 f0 HW c1
          generalize wr.setCell ⟨g, s, none⟩ (.int .i64 (s : Int)) = w2 at hW2 ⊢
          have HW3 := Aside0.mk (hW2.alloc (.cells #[.int .i64 (s : Int)] 3))
          have HO3 := Aside0.mk (World.ownsRow_lit (base := g + 1) (e := 3) (size := 1) w2 #[.int .i64 (s : Int)] 1 (Nat.succ_le_of_lt (blk_lt hW2.row)) (by unfold maxLen; omega) rfl)
          have hol2 : (o.set s (s : Int)).length = m := by rw [List.length_set]; exact hol
          clear hW2 hol
          go_wp2
          go_loopg [8] K0 (fun kq v8 wr2 => ∃ (o2 op : List Int), o2.length = m ∧ op.length ≤ 1000 ∧ Aside0 (fill (dirs l) (s : Int) kq o2 op = some o1) ∧ Aside0 (kq ≤ K0) ∧ Aside0 (Wd WN wr2 g o2) ∧ Aside0 (wr2.ownsRow (g + 1) 3 1 v8 op.length (nums .i64 op)))
          case atStart => exact ⟨_, [(s : Int)], hol2, by simp, HF, ⟨Nat.le_refl _⟩, HW3, HO3⟩
          case round =>
            clear HW3 HO3 HF hol2
            obtain ⟨o2, op, hol, hop, HF, HK2, HW, HO⟩ := hrel
            cases gk with
            | zero => exact absurd HF.out (by simp [fill])
            | succ k2 =>
              have hf := HF.out
              clear HF
              rw [fill] at hf
              rcases nil_or_last op with rfl | ⟨op, v, rfl⟩
              · obtain rfl := Option.some.inj hf
                obtain ⟨A, c, rfl⟩ := own_zero HO.out
                clear hf
                go_wp2
                go_roundg k1
                case measure => have := HK.out; omega
                case rel => exact ⟨s + 1, o2, by first | rw [e9.out] | rfl, by omega, hol, H, ⟨by have := HK.out; omega⟩, HW⟩
              · rw [List.getLast?_append, List.getLast?_singleton, List.dropLast_concat] at hf
                dsimp only [Option.or] at hf
                by_cases hv : 0 ≤ v ∧ v < (o2.length : Int)
                · rw [if_pos hv] at hf
                  obtain ⟨⟨p1, p2⟩, hvis, hf⟩ := Option.bind_eq_some_iff.1 hf
                  have HV := Aside0.mk hvis
                  have HF := Aside0.mk hf
                  obtain ⟨b, cap, rfl, xb, hcap, hO⟩ := own_last HO.out
                  have HO2 := Aside0.mk hO
                  clear HO hvis hf hO
                  have hw64 : (Lit.int .i64 v).wf = true := WalkArith.wf_i64 (by omega)
                  obtain ⟨⟨hNB0, hNB1⟩, hNB2⟩ := HNB'.out
                  obtain ⟨A, c, hlk, hln, hcell⟩ := nb_look hNB0 hNB1 hlN.out v hw64
                  have hrun := hlk wr HW.out.be
                  generalize adjD (dirs l) v = nb at hrun hln hcell HV
                  have HC := Aside0.mk hcell
                  rw [List.length_append, List.length_singleton] at hop
                  clear hNB0 hNB1 hNB2 hlk hcell hw64
                  have e8 : wrap64 (((op.length + 1 : Nat) : Int) - 1) = (op.length : Int) := by rw [nw64 (by omega) (by omega)]; omega
                  go_wp2
                  clear hrun xb e8
                  go_loopw [8, 50] (fun v8 v50 wr => ∃ (j : Nat) (o3 op3 : List Int), v50 = .int .i64 j ∧ j ≤ nb.length ∧ o3.length = m ∧ op3.length ≤ 1000 ∧ Aside0 (vis (s : Int) (nb.drop j) o3 op3 = some (p1, p2)) ∧ Aside0 (Wd WN wr g o3) ∧ Aside0 (wr.ownsRow (g + 1) 3 1 v8 op3.length (nums .i64 op3))) (fun _ v50 _ => nb.length - (intOf v50).toNat)
                  case atStart => exact ⟨0, o2, op, rfl, Nat.zero_le _, hol, by omega, by rw [List.drop_zero]; exact HV, HW, HO2⟩
                  case round =>
                    clear HV HW HO2 hol hop hv
                    obtain ⟨j, o3, op3, rfl, hj, hol, hop, HV, HW, HO⟩ := hrel
                    by_cases hlt : j < nb.length
                    · have hvv := HV.out
                      clear HV
                      rw [List.drop_eq_getElem_cons hlt, vis] at hvv
                      obtain ⟨ad, rfl, hx⟩ := HC.out j hlt
                      have x0 := hx wr HW.out.be
                      rw [show nb.getD j 0 = nb[j] by simp [hlt]] at x0
                      generalize nb[j] = x at hvv x0
                      clear hx
                      have q1 := eq_true (show (j : Int) < (nb.length : Int) by omega)
                      have q0 := eq_true (show (0 : Int) ≤ (j : Int) by omega)
                      have e7 := Aside0.mk (show wrap64 ((j : Int) + 1) = ((j + 1 : Nat) : Int) by rw [nw64 (by omega) (by omega)]; omega)
                      by_cases hxr : 0 ≤ x ∧ x < (o3.length : Int)
                      · rw [if_pos hxr] at hvv
                        have y0 := HW.out.cell x hxr.1 hxr.2
                        have r0 := eq_true hxr.1
                        have r1 := eq_true (show x < (m : Int) by rw [← hol]; exact hxr.2)
                        by_cases c : Go.Proofs.YtmcfhmflncghiaaW.PrintWords.rd o3 x < 0
                        · rw [if_pos c] at hvv
                          have c2 := decide_eq_true c
                          by_cases hop2 : op3.length < 1000
                          · rw [if_pos hop2] at hvv
                            have HV := Aside0.mk hvv
                            have f0 := HW.out.frozen x.toNat
                            clear hvv c
                            go_upto_region 17 with (fail)
                            have hW5 := HW.out.set x.toNat (s : Int)
                            have hO5 := own_kept HO.out (set_grown wr g x.toNat (.int .i64 (s : Int)))
                            have hol5 : (o3.set x.toNat (s : Int)).length = m := by rw [List.length_set]; exact hol
                            clear x0 y0 f0 HW HO hol r0 r1 c2
                            generalize wr.setCell ⟨g, x.toNat, none⟩ (.int .i64 (s : Int)) = w5 at hW5 hO5 ⊢
                            have HW5 := Aside0.mk hW5
                            have HO5 := Aside0.mk hO5
                            clear hW5 hO5
                            go_wp2_with (first | (at_builtin; refine wpList_append_own_at _ (by rfl) _ _ 27 (by rfl) (g + 1) 3 i0 (.int .i64 0) 1 8 Try.underlying27 hi0 hz0 hz1 hz2 rfl (by decide) u8 op3.length (nums .i64 op3) (by rfl) (HO5.out.alloc _) ⟨w5.heap.size, 0, none⟩ 1 1 [.int .i64 x] (by rfl) rfl (cell_one_new _ _ _) (by simp [Value.oneCell']) (by unfold maxLen; omega) (by omega) (Nat.le_trans (Nat.succ_le_of_lt (blk_lt HW5.out.row)) (by simp)) ?_; intro v' w1 hown' hgrow hnil hloc; have HWn := Aside0.mk ((HW5.out.alloc _).grown hgrow (HO5.out.alloc _)); have HOn := Aside0.mk (own_app hown'); clear hown' hgrow hnil hloc))
                            go_roundw
                            case rel => exact ⟨j + 1, _, _, qq69, by omega, hol5, qq68, HV, HWn, HOn⟩
                            case measure => first | exact meas_up2 hlt | exact meas_up hlt e7.out
                          · rw [if_neg hop2] at hvv
                            exact absurd hvv (by simp)
                        · rw [if_neg c] at hvv
                          have c2 := decide_eq_false c
                          have HV := Aside0.mk hvv
                          clear hvv c
                          go_wp2
                          go_roundw
                          case rel => exact ⟨j + 1, o3, op3, qq69, by omega, hol, hop, HV, HW, HO⟩
                          case measure => first | exact meas_up2 hlt | exact meas_up hlt e7.out
                      · rw [if_neg hxr] at hvv
                        exact absurd hvv (by simp)
                    · obtain rfl : j = nb.length := by omega
                      have hvv := HV.out
                      rw [List.drop_length, vis] at hvv
                      obtain ⟨rfl, rfl⟩ : o3 = p1 ∧ op3 = p2 := by simpa using hvv
                      clear hvv HV
                      have q1 := eq_false (show ¬ (nb.length : Int) < (nb.length : Int) by omega)
                      go_wp2
                      go_roundg k2
                      case measure => have := HK2.out; omega
                      case rel => exact ⟨o3, op3, hol, hop, HF, ⟨by have := HK2.out; omega⟩, HW, HO⟩
                · rw [if_neg hv] at hf
                  exact absurd hf (by simp)
      · rw [if_neg hsm] at H
        obtain rfl := Option.some.inj H
        have q1 := eq_false (show ¬ (s : Int) < (m : Int) by omega)
        go_wp2
        go_ret
        refine ⟨_, rfl, Kd.R_of_own (α := Int) (by rw [hol]; exact row_own HW.out.row hol (by have := HBN.out.size; have := HW.out.le; omega) (by omega)) (fun _ _ => trivial), HBN.out.trans (HW.out.be.mono HBN.out.size)⟩
end Go.Proofs.Ytmcfhmflncghiaa.LinkW
namespace Go.Proofs.Ytmcfhmflncghiaa.Pure
open Go.RowKit Go.Proofs.Ytmcfhmflncghiaa.Q Go.Proofs.Ytmcfhmflncghiaa.LinkW Go.Proofs.YtmcfhmflncghiaaW.PrintWords Go.Proofs.YtmcfhmflncghiaaW.PrintLast Go.Proofs.YtmcfhmflncghiaaW.PrintMore

theorem mem_adj {l : List Run} {v x : Int} : x ∈ adjD (dirs l) v ↔ ∃ r ∈ l, (r.f0 = v ∧ r.f1 = x) ∨ (r.f1 = v ∧ r.f0 = x) := by
  unfold adjD dirs
  simp only [List.mem_map, List.mem_filter, List.mem_flatMap, List.mem_cons, List.not_mem_nil, or_false, decide_eq_true_eq]
  constructor
  · rintro ⟨p, ⟨⟨r, hr, h⟩, h1⟩, h2⟩
    refine ⟨r, hr, ?_⟩
    rcases h with rfl | rfl
    · exact .inl ⟨h1, h2⟩
    · exact .inr ⟨h1, h2⟩
  · rintro ⟨r, hr, h | h⟩
    · exact ⟨(r.f0, r.f1), ⟨⟨r, hr, .inl rfl⟩, h.1⟩, h.2⟩
    · exact ⟨(r.f1, r.f0), ⟨⟨r, hr, .inr rfl⟩, h.1⟩, h.2⟩
theorem count_set_neg (s : Int) (hs : 0 ≤ s) : ∀ (o : List Int) (i : Nat), (h : i < o.length) → o[i] = -1 → (o.set i s).count (-1) + 1 = o.count (-1)
  | [], i, h, _ => by simp at h
  | x :: o, 0, _, e => by
    simp only [List.getElem_cons_zero] at e
    have : s ≠ -1 := by omega
    simp [List.set_cons_zero, e, this]
  | x :: o, i + 1, h, e => by
    have ih := count_set_neg s hs o i (by simpa using h) (by simpa using e)
    simp only [List.set_cons_succ, List.count_cons]
    omega
theorem count_set_rd (s : Int) (hs : 0 ≤ s) (o : List Int) (x : Int) (h0 : 0 ≤ x) (h1 : x < o.length) (e : rd o x = -1) : (o.set x.toNat s).count (-1) + 1 = o.count (-1) := by
  obtain ⟨i, rfl⟩ : ∃ i : Nat, x = i := ⟨x.toNat, by omega⟩
  rw [rd_eq o i (by omega)] at e
  exact count_set_neg s hs o i (by omega) e
/-- What is known while the start s is spread: L is the answer. -/
structure Mid (n : Int) (L o : List Int) (s : Int) : Prop where
  len : (o.length : Int) = n
  lo : ∀ v, 0 ≤ v → v < n → rd L v < s → rd o v = rd L v
  hi : ∀ v, 0 ≤ v → v < n → s < rd L v → rd o v = -1
  mi : ∀ v, 0 ≤ v → v < n → rd L v = s → rd o v = -1 ∨ rd o v = s
theorem Mid.neg {n : Int} {L o : List Int} {s : Int} (h : Mid n L o s) (hs : 0 ≤ s) {v : Int} (h0 : 0 ≤ v) (h1 : v < n) (hL : rd L v = s) : rd o v < 0 ↔ rd o v ≠ s := by
  rcases h.mi v h0 h1 hL with e | e <;> rw [e] <;> omega
theorem Mid.set {n : Int} {L o : List Int} {s : Int} (h : Mid n L o s) {x : Int} (h0 : 0 ≤ x) (h1 : x < n) (hL : rd L x = s) : Mid n L (o.set x.toNat s) s := by
  have hl := h.len
  refine ⟨by rw [List.length_set]; exact hl, fun v v0 v1 e => ?_, fun v v0 v1 e => ?_, fun v v0 v1 e => ?_⟩ <;> rw [rd_set o x v s h0 v0 (by omega)] <;> split
  · next q => subst q; omega
  · exact h.lo v v0 v1 e
  · next q => subst q; omega
  · exact h.hi v v0 v1 e
  · exact .inr rfl
  · exact h.mi v v0 v1 e
structure VisOut (n : Int) (L : List Int) (s : Int) (xs o op o' op' : List Int) : Prop where
  mid : Mid n L o' s
  grow : ∀ v, 0 ≤ v → v < n → rd o v = s → rd o' v = s
  done : ∀ x ∈ xs, rd o' x = s
  new : ∀ v, 0 ≤ v → v < n → rd o' v = s → rd o v = s ∨ v ∈ op'
  keep : ∀ x ∈ op, x ∈ op'
  ops : (∀ x ∈ op, 0 ≤ x ∧ x < n ∧ rd L x = s) → ∀ x ∈ op', 0 ≤ x ∧ x < n ∧ rd L x = s
  cnt : op'.length + o'.count (-1) = op.length + o.count (-1)
theorem vis_ok {n : Int} {L : List Int} {s : Int} (hs : 0 ≤ s) : ∀ (xs o op : List Int), (∀ x ∈ xs, 0 ≤ x ∧ x < n ∧ rd L x = s) → Mid n L o s → op.length + o.count (-1) ≤ 900 → ∃ o' op', vis s xs o op = some (o', op') ∧ VisOut n L s xs o op o' op'
  | [], o, op, _, hM, _ => ⟨o, op, rfl, hM, fun _ _ _ e => e, by simp, fun _ _ _ e => .inl e, fun _ h => h, fun h => h, rfl⟩
  | x :: xs, o, op, hx, hM, hc => by
    obtain ⟨x0, x1, xL⟩ := hx x (by simp)
    have hl := hM.len
    have hx' : ∀ y ∈ xs, 0 ≤ y ∧ y < n ∧ rd L y = s := fun y hy => hx y (by simp [hy])
    rw [vis, if_pos ⟨x0, by omega⟩]
    by_cases c : rd o x < 0
    · have hne := (hM.neg hs x0 x1 xL).1 c
      have e1 : rd o x = -1 := by rcases hM.mi x x0 x1 xL with e | e; exact e; exact absurd e hne
      have hcnt := count_set_rd s hs o x x0 (by omega) e1
      rw [if_pos c, if_pos (by omega)]
      obtain ⟨o', op', h1, h2⟩ := vis_ok hs xs (o.set x.toNat s) (op ++ [x]) hx' (hM.set x0 x1 xL) qq68
      have hset : ∀ v, 0 ≤ v → v < n → rd (o.set x.toNat s) v = if v = x then s else rd o v := fun v v0 v1 => rd_set o x v s x0 v0 (by omega)
      refine ⟨o', op', h1, h2.mid, fun v v0 v1 e => h2.grow v v0 v1 (by rw [hset v v0 v1]; split <;> simp [e]), fun y hy => ?_, fun v v0 v1 e => ?_, fun y hy => h2.keep y (by simp [hy]), fun hop => h2.ops fun y hy => ?_, ?_⟩
      · rcases List.mem_cons.1 hy with rfl | hy
        · exact h2.grow y x0 x1 (by rw [hset y x0 x1, if_pos rfl])
        · exact h2.done y hy
      · rcases h2.new v v0 v1 e with q | q
        · rw [hset v v0 v1] at q
          split at q
          · next z => exact .inr (h2.keep v (by simp [z]))
          · exact .inl q
        · exact .inr q
      · rcases List.mem_append.1 hy with q | q
        · exact hop y q
        · rw [List.mem_singleton.1 q]; exact ⟨x0, x1, xL⟩
      · have := h2.cnt
        rw [List.length_append, List.length_singleton] at this
        omega
    · rw [if_neg c]
      have e1 : rd o x = s := Classical.byContradiction fun q => c ((hM.neg hs x0 x1 xL).2 q)
      obtain ⟨o', op', h1, h2⟩ := vis_ok hs xs o op hx' hM hc
      refine ⟨o', op', h1, h2.mid, h2.grow, fun y hy => ?_, h2.new, h2.keep, h2.ops, h2.cnt⟩
      rcases List.mem_cons.1 hy with rfl | hy
      · exact h2.grow y x0 x1 e1
      · exact h2.done y hy
theorem fill_ok {n : Int} {l : List Run} {L : List Int} (hv : VL n l) (hL : Lst n l L) {s : Int} (hs : 0 ≤ s ∧ s < n) : ∀ (k : Nat) (o op : List Int), op.length + o.count (-1) < k → op.length + o.count (-1) ≤ 900 → Mid n L o s → rd o s = s →
    (∀ x ∈ op, 0 ≤ x ∧ x < n ∧ rd L x = s) → (∀ u, 0 ≤ u → u < n → rd o u = s → u ∉ op → ∀ x ∈ adjD (dirs l) u, rd o x = s) →
    ∃ o', fill (dirs l) s k o op = some o' ∧ Mid n L o' s ∧ ∀ v, 0 ≤ v → v < n → rd L v = s → rd o' v = s
  | 0, _, _, h, _, _, _, _, _ => by omega
  | k + 1, o, op, hk, hc, hM, hos, hop, hd => by
    rw [fill]
    rcases List.eq_nil_or_concat op with rfl | ⟨op, v, e⟩
    · refine ⟨o, rfl, hM, fun v v0 v1 e => ?_⟩
      have hcl : ∀ r ∈ l, (rd o r.f0 = s) = (rd o r.f1 = s) := fun r hr => by
        have hb := hv r hr
        refine propext ⟨fun q => hd r.f0 hb.1 hb.2.1 q (by simp) r.f1 (mem_adj.2 ⟨r, hr, .inl ⟨rfl, rfl⟩⟩), fun q => hd r.f1 hb.2.2.1 hb.2.2.2 q (by simp) r.f0 (mem_adj.2 ⟨r, hr, .inr ⟨rfl, rfl⟩⟩)⟩
      have := hL.lk v v0 v1
      rw [e] at this
      exact (this.const (fun x => rd o x = s) hcl).mp hos
    · have e2 : op ++ [v] = op.concat v := by simp
      rw [e, ← e2] at hk hc hop hd ⊢
      rw [List.getLast?_append, List.getLast?_singleton, List.dropLast_concat]
      dsimp only [Option.or]
      obtain ⟨v0, v1, vL⟩ := hop v (by simp)
      have hl := hM.len
      rw [List.length_append, List.length_singleton] at hk hc
      rw [if_pos ⟨v0, by omega⟩]
      have hadj : ∀ u, 0 ≤ u → u < n → rd L u = s → ∀ x ∈ adjD (dirs l) u, 0 ≤ x ∧ x < n ∧ rd L x = s := fun u u0 u1 uL x hx => by
        obtain ⟨r, hr, h | h⟩ := mem_adj.1 hx
        · have hb := hv r hr
          have := hL.cl r hr
          rw [h.1, h.2] at this
          rw [h.2] at hb
          exact ⟨hb.2.2.1, hb.2.2.2, by omega⟩
        · have hb := hv r hr
          have := hL.cl r hr
          rw [h.1, h.2] at this
          rw [h.2] at hb
          exact ⟨hb.1, hb.2.1, by omega⟩
      obtain ⟨o', op', h1, h2⟩ := vis_ok hs.1 (adjD (dirs l) v) o op (hadj v v0 v1 vL) hM (by omega)
      rw [h1]
      simp only [Option.bind_some]
      have hc2 := h2.cnt
      refine fill_ok hv hL hs k o' op' (by omega) (by omega) h2.mid (h2.grow s hs.1 hs.2 hos) (h2.ops fun x hx => hop x (by simp [hx])) (fun u u0 u1 uo hu x hx => ?_)
      by_cases q : u = v
      · subst q; exact h2.done x hx
      · rcases h2.new u u0 u1 uo with z | z
        · have hx1 := hd u u0 u1 z (by
            intro hm
            rcases List.mem_append.1 hm with y | y
            · exact hu (h2.keep u y)
            · exact q (List.mem_singleton.1 y)) x hx
          obtain ⟨r, hr, h | h⟩ := mem_adj.1 hx
          · have hb := hv r hr
            rw [h.2] at hb
            exact h2.grow x hb.2.2.1 hb.2.2.2 hx1
          · have hb := hv r hr
            rw [h.2] at hb
            exact h2.grow x hb.1 hb.2.1 hx1
        · exact absurd z hu
theorem outer_ok {m : Nat} {l : List Run} {L : List Int} (hv : VL m l) (hL : Lst m l L) (hm : m ≤ 800) (K : Nat) (hK : m + 2 < K) : ∀ (k s : Nat) (o : List Int), m - s < k → s ≤ m → o.length = m →
    (∀ v : Int, 0 ≤ v → v < m → rd L v < s → rd o v = rd L v) → (∀ v : Int, 0 ≤ v → v < m → (s : Int) ≤ rd L v → rd o v = -1) → outer (dirs l) m K k s o = some L
  | 0, _, _, h, _, _, _, _ => by omega
  | k + 1, s, o, hk, hsm, hol, h1, h2 => by
    rw [outer]
    have hLl := hL.len
    have hrep : ∀ v : Int, 0 ≤ v → v < m → rd L (rd L v) = rd L v := fun v v0 v1 => (hL.lk v v0 v1).const (rd L) hL.cl
    by_cases c : s < m
    · rw [if_pos c]
      have s0 : (0 : Int) ≤ (s : Int) := by omega
      have s1 : (s : Int) < (m : Int) := by omega
      have hle := hL.le s s0 s1
      have hnn := hL.nn s s0 s1
      by_cases q : rd L (s : Int) < s
      · have e := h1 s s0 s1 q
        rw [if_pos (by rw [e]; exact hnn)]
        refine outer_ok hv hL hm K hK k (s + 1) o (by omega) (by omega) hol (fun v v0 v1 e2 => ?_) (fun v v0 v1 e2 => h2 v v0 v1 (by omega))
        by_cases z : rd L v = s
        · have := hrep v v0 v1
          rw [z] at this
          omega
        · exact h1 v v0 v1 (by omega)
      · have eL : rd L (s : Int) = s := by omega
        have e := h2 s s0 s1 (by omega)
        rw [if_neg (by rw [e]; decide)]
        have hset : ∀ v : Int, 0 ≤ v → v < m → rd (o.set s (s : Int)) v = if v = s then (s : Int) else rd o v := fun v v0 v1 => by
          have := rd_set o (s : Int) v s s0 v0 (by omega)
          rwa [Int.toNat_natCast] at this
        have hM : Mid m L (o.set s (s : Int)) s := by
          refine ⟨by rw [List.length_set]; omega, fun v v0 v1 e2 => ?_, fun v v0 v1 e2 => ?_, fun v v0 v1 e2 => ?_⟩ <;> rw [hset v v0 v1] <;> split
          · next z => subst z; omega
          · exact h1 v v0 v1 e2
          · next z => subst z; omega
          · exact h2 v v0 v1 (by omega)
          · exact .inr rfl
          · exact .inl (h2 v v0 v1 (by omega))
        have hcl := List.count_le_length (a := (-1 : Int)) (l := o.set s (s : Int))
        rw [List.length_set] at hcl
        obtain ⟨o', f1, f2, f3⟩ := fill_ok hv hL ⟨s0, s1⟩ K (o.set s (s : Int)) [(s : Int)] (by rw [List.length_singleton]; omega) (by rw [List.length_singleton]; omega) hM (by rw [hset s s0 s1, if_pos rfl]) (by
          intro x hx
          rw [List.mem_singleton.1 hx]
          exact ⟨s0, s1, eL⟩) (fun u u0 u1 uo hu => by
            rw [hset u u0 u1, if_neg (by simpa using hu)] at uo
            exfalso
            by_cases z : rd L u < s
            · have := h1 u u0 u1 z; omega
            · have := h2 u u0 u1 (by omega); omega)
        rw [f1]
        simp only [Option.bind_some]
        have f4 := f2.len
        refine outer_ok hv hL hm K hK k (s + 1) o' (by omega) (by omega) (by omega) (fun v v0 v1 e2 => ?_) (fun v v0 v1 e2 => f2.hi v v0 v1 (by omega))
        by_cases z : rd L v = s
        · rw [f3 v v0 v1 z, z]
        · exact f2.lo v v0 v1 (by omega)
    · rw [if_neg c]
      congr 1
      refine ext_rd (by omega) fun v v0 v1 => h1 v v0 (by omega) ?_
      have := hL.le v v0 (by omega)
      omega
theorem outer_least {m : Nat} {l : List Run} (hv : VL m l) (hm : m ≤ 6) : outer (dirs l) m 100 20 0 (List.replicate m (-1)) = some (leastR m l) := by
  refine outer_ok hv (leastR_lst (by omega) l hv) (by omega) 100 (by omega) 20 0 _ (by omega) (by omega) (by simp) (fun v v0 v1 e => ?_) (fun v v0 v1 e => ?_)
  · have := (leastR_lst (n := m) (by omega) l hv).nn v v0 v1
    simp at e; omega
  · obtain ⟨i, rfl⟩ : ∃ i : Nat, v = i := ⟨v.toNat, by omega⟩
    rw [rd_eq _ i (by simp; omega)]
    simp
/-- The program's answer, at a valid net. -/
theorem leastLinked_all (n : Int) (A1 : Option Addr) (c1 : Nat) (l : List Run) (w : World) (hr1 : Kd.C k32 w A1 l.length l) (hc1 : l.length ≤ c1) (hv : nvB n l = true) :
    Calls Try.prog 26 #[.int .i64 n, .slice A1 l.length c1] w fun e w' => ∃ v1_ : Value, e = .returned v1_ ∧ Kd.R (Kd.int .i64) 3 w' w.heap.size (fun _ => True) v1_ (leastR n l) ∧ Below w.heap.size w w' := by
  have hn := nvB_n hv
  obtain ⟨m, rfl⟩ : ∃ m : Nat, n = m := ⟨n.toNat, by omega⟩
  exact least_calls m 100 20 A1 c1 l w hr1 hc1 hv _ (outer_least (nvB_VL hv) (by omega))
end Go.Proofs.Ytmcfhmflncghiaa.Pure
namespace Go.Proofs.Ytmcfhmflncghiaa.Q
open Go.RowKit Go.Proofs.YtmcfhmflncghiaaW.PrintWords Go.Proofs.YtmcfhmflncghiaaW.PrintLast Go.Proofs.YtmcfhmflncghiaaW.PrintMore
attribute [local go_sem] max2_int min2_int max_two min_two max_three min_three max_four min_four
set_option linter.unusedVariables false
set_option linter.unusedSimpArgs false

/-! ### impl_leastLinked: function 26 -/
def impl_leastLinked.f (a0 : Int) (l1 : List (S32)) : Option (List Int) := if Go.Proofs.Ytmcfhmflncghiaa.Pure.nvB a0 l1 = true then some (Go.Proofs.Ytmcfhmflncghiaa.Pure.leastR a0 l1) else none
theorem impl_leastLinked.calls (a0 : Int) (A1 : Option Addr) (c1 : Nat) (l1 : List (S32)) (r : List Int) (w : World) (hr1 : Kd.C k32 w A1 l1.length l1) (hc1 : l1.length ≤ c1) (h : impl_leastLinked.f a0 l1 = some r) :
    Calls Try.prog 26 #[.int .i64 a0, .slice A1 l1.length c1] w fun e w' => ∃ v0_ : Value, e = .returned (v0_) ∧ Kd.R (Kd.int .i64) 3 w' w.heap.size (fun _ => True) v0_ r ∧ Below w.heap.size w w' := by
  unfold impl_leastLinked.f at h
  by_cases c : Go.Proofs.Ytmcfhmflncghiaa.Pure.nvB a0 l1 = true
  · rw [if_pos c] at h
    obtain rfl := Option.some.inj h
    exact Go.Proofs.Ytmcfhmflncghiaa.Pure.leastLinked_all a0 A1 c1 l1 w hr1 hc1 c
  · rw [if_neg c] at h
    exact absurd h (by simp)

end Go.Proofs.Ytmcfhmflncghiaa.Q
namespace Go.Proofs.Ytmcfhmflncghiaa.Q
open Go.RowKit Go.Proofs.YtmcfhmflncghiaaW.PrintWords Go.Proofs.YtmcfhmflncghiaaW.PrintLast Go.Proofs.YtmcfhmflncghiaaW.PrintMore
attribute [local go_sem] max2_int min2_int max_two min_two max_three min_three max_four min_four
set_option linter.unusedVariables false
set_option linter.unusedSimpArgs false

/-! ### impl_NetWhole: function 13 -/
def impl_NetWhole.l0 : Nat → List Int → Int → Int → Option (Bool)
  | 0, _, _, _ => none
  | k + 1, x13, x14, x15 => if x15 < x14 then (if 0 ≤ x15 then (if x15 < (x13.length : Int) then (if (rd x13 x15) = 0 then (impl_NetWhole.l0 k x13 x14 (wrap64 (x15 + 1))) else (some false)) else (none)) else (none)) else (some true)
def impl_NetWhole.f (k : Nat) (a0 : Int) (l1 : List (S32)) : Option (Bool) := (impl_NetValid.f k a0 l1).bind fun t210 => (if t210 = true then ((impl_leastLinked.f a0 l1).bind fun t211 => (impl_NetWhole.l0 k t211 (t211.length : Int) 0)) else (some false))
set_option maxHeartbeats 8000000 in
set_option maxRecDepth 100000 in
theorem impl_NetWhole.calls (k : Nat) (a0 : Int) (A1 : Option Addr) (c1 : Nat) (l1 : List (S32)) (r : Bool) (w : World) (hr1 : Kd.C k32 w A1 l1.length l1) (hc1 : l1.length ≤ c1) (h : impl_NetWhole.f k a0 l1 = some r) :
    Calls Try.prog 13 #[.int .i64 a0, .slice A1 l1.length c1] w fun e w' => e = .returned (.bool r) ∧ Below w.heap.size w w' := by
  have HR1 := Aside0.mk hr1
  have HC1 := Aside0.mk hc1
  clear hr1 hc1
  have HB := Aside0.mk (Below.refl w.heap.size w)
  have H : ((impl_NetValid.f k a0 l1).bind fun t210 => (if t210 = true then ((impl_leastLinked.f a0 l1).bind fun t211 => (impl_NetWhole.l0 k t211 (t211.length : Int) 0)) else (some false))) = some r := h
  clear h
  replace H := Option.bind_eq_some_iff.mp H
  obtain ⟨t210, A30, H⟩ := H
  replace H : (if t210 = true then ((impl_leastLinked.f a0 l1).bind fun t211 => (impl_NetWhole.l0 k t211 (t211.length : Int) 0)) else (some false)) = some r := H
  have A3 := Aside0.mk A30
  clear A30
  by_cases c4 : t210 = true
  · subst c4
    have H1 : ((impl_leastLinked.f a0 l1).bind fun t211 => (impl_NetWhole.l0 k t211 (t211.length : Int) 0)) = some r := by rw [if_pos rfl] at H; exact H
    clear H
    have H := H1
    clear H1
    replace H := Option.bind_eq_some_iff.mp H
    obtain ⟨t211, A50, H⟩ := H
    replace H : (impl_NetWhole.l0 k t211 (t211.length : Int) 0) = some r := H
    have A5 := Aside0.mk A50
    clear A50
    have H' := Aside0.mk H
    clear H
    go_enter Try.func13, Try.ntmps13
    go_wp2_with (first | ((with_reducible refine gate_callee (f := 23) rfl ?_); refine goesL_ (some 9) rfl rfl Try.func23 (by kernel_rfl) rfl #[.int .i64 a0, .slice A1 l1.length c1] rfl qq5 ?_; (with_reducible refine (impl_NetValid.calls k a0 _ _ l1 true _ ?side1 ?side2 A3.out).mono ?_); (case side1 => exact qq15 HR1.out); (case side2 => exact HC1.out); rintro e w6 ⟨rfl, hb⟩; refine ⟨_, rfl, ?_⟩; have n0_ := Aside0.mk (below_step qq1 hb); clear HB; have HB := n0_; clear n0_; (try clear hb); (try clear hb2); (try clear hk); (try clear hi)) | ((with_reducible refine gate_callee (f := 26) rfl ?_); refine goesL_ (some 13) rfl rfl Try.func26 (by kernel_rfl) rfl #[.int .i64 a0, .slice A1 l1.length c1] rfl qq5 ?_; (with_reducible refine (impl_leastLinked.calls a0 _ _ l1 t211 _ ?side1 ?side2 A5.out).mono ?_); (case side1 => exact qq35); (case side2 => exact HC1.out); rintro e w7 ⟨v212, rfl, ho0, hb⟩; refine ⟨_, rfl, ?_⟩; have n0_ := Aside0.mk (Kd.R_lower ho0 (below_size qq1)); have n1_ := Aside0.mk (below_step qq1 hb); clear HB; have HO213 := n0_; have HB := n1_; clear n0_ n1_; (try clear hb); (try clear hb2); (try clear hk); (try clear hi); (try clear ho0); obtain ⟨Ao8, co8, eo8⟩ := Kd.R_slice HO213.out; subst eo8))
    go_loopg [15] k (fun kq v15 w' => ∃ (x15_1 : Int), v15 = .int .i64 x15_1 ∧ Aside0 (impl_NetWhole.l0 kq t211 (t211.length : Int) x15_1 = some r) ∧ Aside0 (kq ≤ k) ∧ Aside0 (Kd.R (Kd.int .i64) 3 w' w.heap.size (fun _ => True) (.slice Ao8 t211.length co8) t211) ∧ Aside0 (Below w.heap.size w w'))
    case atStart => exact ⟨(0), qq13, H', ⟨Nat.le_refl _⟩, ⟨qq2 HO213.out⟩, ⟨qq1⟩⟩
    case round =>
      clear H'
      try clear c1
      try clear c2
      try clear p2
      try clear c4
      obtain ⟨x15_1, rfl, HA, HK1, HO_13, HB⟩ := hrel
      cases gk with
      | zero => exact absurd HA.out (by simp [impl_NetWhole.l0])
      | succ k1 =>
        have H := HA.out
        clear HA
        simp only [impl_NetWhole.l0] at H
        by_cases c9 : x15_1 < (t211.length : Int)
        · rw [if_pos c9] at H
          have c9b0 : decide (x15_1 < (t211.length : Int)) = true := decide_eq_true c9
          clear c9
          by_cases c10 : 0 ≤ x15_1
          · rw [if_pos c10] at H
            have c10b0 : decide (0 ≤ x15_1) = true := decide_eq_true c10
            clear c10
            by_cases c11 : x15_1 < (t211.length : Int)
            · rw [if_pos c11] at H
              have c11b0 : decide (x15_1 < (t211.length : Int)) = true := decide_eq_true c11
              clear c11
              by_cases c12 : (rd t211 x15_1) = 0
              · rw [if_pos c12] at H
                have c12b0 : ((rd t211 x15_1) == 0) = true := beq_iff_eq.mpr c12
                have c12b1 : ((rd t211 x15_1) != 0) = false := bne_eq_false_iff_eq.mpr c12
                clear c12
                have H' := Aside0.mk H
                clear H
                have p214 : 0 ≤ (x15_1 : Int) := of_decide_eq_true qq3
                have q214 : x15_1 < (t211.length : Int) := of_decide_eq_true qq3
                obtain ⟨ad214, e214, hx214_0⟩ := Kd.at_int (Kd.R_reads' HO_13.out).2.2 x15_1 p214 q214
                cases e214
                replace p214 := eq_true p214
                replace q214 := eq_true q214
                go_wp2
                go_roundg k1
                case measure => have := HK1.out; omega
                case rel => exact ⟨(wrap64 (x15_1 + 1)), qq13, H', ⟨by have := HK1.out; omega⟩, ⟨qq2 HO_13.out⟩, ⟨qq1⟩⟩
              · rw [if_neg c12] at H
                have c12b0 : ((rd t211 x15_1) == 0) = false := beq_eq_false_iff_ne.mpr c12
                have c12b1 : ((rd t211 x15_1) != 0) = true := bne_iff_ne.mpr c12
                obtain rfl := Option.some.inj H
                have p214 : 0 ≤ (x15_1 : Int) := of_decide_eq_true qq3
                have q214 : x15_1 < (t211.length : Int) := of_decide_eq_true qq3
                obtain ⟨ad214, e214, hx214_0⟩ := Kd.at_int (Kd.R_reads' HO_13.out).2.2 x15_1 p214 q214
                cases e214
                replace p214 := eq_true p214
                replace q214 := eq_true q214
                go_wp2
                go_ret
                exact ⟨qq11, qq1⟩
            · rw [if_neg c11] at H
              exact absurd H (by simp)
          · rw [if_neg c10] at H
            exact absurd H (by simp)
        · rw [if_neg c9] at H
          have c9b0 : decide (x15_1 < (t211.length : Int)) = false := decide_eq_false c9
          clear c9
          obtain rfl := Option.some.inj H
          go_wp2
          go_ret
          exact ⟨qq11, qq1⟩
  · replace c4 := Bool.eq_false_iff.mpr c4
    subst c4
    have H1 : (some false) = some r := by rw [if_neg (show ¬ (false = true) by decide)] at H; exact H
    clear H
    have H := H1
    clear H1
    obtain rfl := Option.some.inj H
    go_enter Try.func13, Try.ntmps13
    go_wp2_with (first | ((with_reducible refine gate_callee (f := 23) rfl ?_); refine goesL_ (some 9) rfl rfl Try.func23 (by kernel_rfl) rfl #[.int .i64 a0, .slice A1 l1.length c1] rfl qq5 ?_; (with_reducible refine (impl_NetValid.calls k a0 _ _ l1 false _ ?side1 ?side2 A3.out).mono ?_); (case side1 => exact qq15 HR1.out); (case side2 => exact HC1.out); rintro e w13 ⟨rfl, hb⟩; refine ⟨_, rfl, ?_⟩; have n0_ := Aside0.mk (below_step qq1 hb); clear HB; have HB := n0_; clear n0_; (try clear hb); (try clear hb2); (try clear hk); (try clear hi)))
    go_ret
    exact ⟨qq11, qq1⟩

end Go.Proofs.Ytmcfhmflncghiaa.Q
namespace Go.Proofs.Ytmcfhmflncghiaa.Q
open Go.RowKit Go.Proofs.YtmcfhmflncghiaaW.PrintWords Go.Proofs.YtmcfhmflncghiaaW.PrintLast Go.Proofs.YtmcfhmflncghiaaW.PrintMore
attribute [local go_sem] max2_int min2_int max_two min_two max_three min_three max_four min_four
set_option linter.unusedVariables false
set_option linter.unusedSimpArgs false

/-! ### impl_TreeFirst: function 10 -/
def impl_TreeFirst.l0 : Nat → Int → List (S32) → List Int → List (S32) → Int → Int → Option (List Int × Bool)
  | 0, _, _, _, _, _, _ => none
  | k + 1, x0, x1, x6, x16, x17, x18 => if x18 < x17 then (if 0 ≤ x18 then (if x18 < (x16.length : Int) then ((impl_pick.f k x1 x6).bind fun t232 => ((impl_leastLinked.f x0 t232).bind fun t235 => (if 0 ≤ ((rd_T32 x16 x18).f0) then (if ((rd_T32 x16 x18).f0) < (t235.length : Int) then (if 0 ≤ ((rd_T32 x16 x18).f1) then (if ((rd_T32 x16 x18).f1) < (t235.length : Int) then (if (rd t235 ((rd_T32 x16 x18).f0)) = (rd t235 ((rd_T32 x16 x18).f1)) then (impl_TreeFirst.l0 k x0 x1 x6 x16 x17 (wrap64 (x18 + 1))) else (if x6.length < 17592186044416 then (impl_TreeFirst.l0 k x0 x1 (x6 ++ [x18]) x16 x17 (wrap64 (x18 + 1))) else (none))) else (none)) else (none)) else (none)) else (none)))) else (none)) else (none)) else (some (x6, true))
def impl_TreeFirst.f (k : Nat) (a0 : Int) (l1 : List (S32)) : Option (List Int × Bool) := (impl_NetWhole.f k a0 l1).bind fun t223 => (if t223 = true then (impl_TreeFirst.l0 k a0 l1 (([] : List Int)) l1 (l1.length : Int) 0) else (some ((([] : List Int)), false)))
set_option maxHeartbeats 8000000 in
set_option maxRecDepth 100000 in
theorem impl_TreeFirst.calls (k : Nat) (a0 : Int) (A1 : Option Addr) (c1 : Nat) (l1 : List (S32)) (r1 : List Int) (r2 : Bool) (w : World) (hr1 : Kd.C k32 w A1 l1.length l1) (hc1 : l1.length ≤ c1) (h : impl_TreeFirst.f k a0 l1 = some (r1, r2)) :
    Calls Try.prog 10 #[.int .i64 a0, .slice A1 l1.length c1] w fun e w' => ∃ v0_ : Value, e = .returned (.tuple #[v0_, .bool r2]) ∧ Kd.R (Kd.int .i64) 3 w' w.heap.size (fun _ => True) v0_ r1 ∧ Below w.heap.size w w' := by
  have hu32 := Try.underlying32
  have HR1 := Aside0.mk hr1
  have HC1 := Aside0.mk hc1
  clear hr1 hc1
  have HB := Aside0.mk (Below.refl w.heap.size w)
  have H : ((impl_NetWhole.f k a0 l1).bind fun t223 => (if t223 = true then (impl_TreeFirst.l0 k a0 l1 (([] : List Int)) l1 (l1.length : Int) 0) else (some ((([] : List Int)), false)))) = some (r1, r2) := h
  clear h
  replace H := Option.bind_eq_some_iff.mp H
  obtain ⟨t223, A30, H⟩ := H
  replace H : (if t223 = true then (impl_TreeFirst.l0 k a0 l1 (([] : List Int)) l1 (l1.length : Int) 0) else (some ((([] : List Int)), false))) = some (r1, r2) := H
  have A3 := Aside0.mk A30
  clear A30
  by_cases c4 : t223 = true
  · subst c4
    have H1 : (impl_TreeFirst.l0 k a0 l1 (([] : List Int)) l1 (l1.length : Int) 0) = some (r1, r2) := by rw [if_pos rfl] at H; exact H
    clear H
    have H := H1
    clear H1
    obtain ⟨y227, hy227⟩ : ∃ y_ : List Int, y_ = (([] : List Int)) := ⟨_, rfl⟩
    replace H : (impl_TreeFirst.l0 k a0 l1 y227 l1 (l1.length : Int) 0) = some (r1, r2) := by first | (rw [hy227]; with_reducible exact H) | (have H2_ := (Option.bind_some _ _).symm.trans H; rw [hy227]; with_reducible exact H2_) | (have H2_ := (Option.bind_some _ _).symm.trans H; with_reducible exact H2_) | with_reducible exact H | (rw [hy227]; exact H) | exact H
    have Ny227 := Aside0.mk hy227
    clear hy227
    have H' := Aside0.mk H
    clear H
    go_enter Try.func10, Try.ntmps10
    go_wp2_with (first | (go_at_call 13; (with_reducible refine (impl_NetWhole.calls k a0 _ _ l1 true _ ?side1 ?side2 A3.out).mono ?_); (case side1 => exact qq15 HR1.out); (case side2 => exact HC1.out); rintro e w5 ⟨rfl, hb⟩; have n0_ := Aside0.mk (below_step qq1 hb); clear HB; have HB := n0_; clear n0_; (try clear hb); (try clear hb2); (try clear hk); (try clear hi)) | ((with_reducible refine gate_dst (N := 15) rfl ?_); refine Kd.R_lit (Kd.int .i64) _ 3 ?hg (N := 15) ?hd (xs := ([] : List Int)) (inner := []) (ok := fun _ => True) (okp := fun _ => True) ?hr ?hp (fun _ hk => hk) trivial (Below.refl _ _) (Nat.le_refl _) (by simp) ?_; (case hd => rfl); (case hg => rfl); (case hr => exact qq16); (case hp => exact (Reps.none _ _)); intro v228 w6 ho7 hb hg_ hnew_; clear hg_ hnew_; (first | rw [← Ny227.out] at ho7 | (simp only [Int.reduceToNat] at ho7; rw [← Ny227.out] at ho7)); have n0_ := Aside0.mk (Kd.R_lower ho7 (below_size qq1)); have n1_ := Aside0.mk (below_step qq1 hb); clear HB; have HO229 := n0_; have HB := n1_; clear n0_ n1_; clear hb ho7))
    repeat (go_quiet (first | (go_at_call 13; (with_reducible refine (impl_NetWhole.calls k a0 _ _ l1 true _ ?side1 ?side2 A3.out).mono ?_); (case side1 => exact qq15 HR1.out); (case side2 => exact HC1.out); rintro e w5 ⟨rfl, hb⟩; have n0_ := Aside0.mk (below_step qq1 hb); clear HB; have HB := n0_; clear n0_; (try clear hb); (try clear hb2); (try clear hk); (try clear hi)) | ((with_reducible refine gate_dst (N := 15) rfl ?_); refine Kd.R_lit (Kd.int .i64) _ 3 ?hg (N := 15) ?hd (xs := ([] : List Int)) (inner := []) (ok := fun _ => True) (okp := fun _ => True) ?hr ?hp (fun _ hk => hk) trivial (Below.refl _ _) (Nat.le_refl _) (by simp) ?_; (case hd => rfl); (case hg => rfl); (case hr => exact qq16); (case hp => exact (Reps.none _ _)); intro v228 w6 ho7 hb hg_ hnew_; clear hg_ hnew_; (first | rw [← Ny227.out] at ho7 | (simp only [Int.reduceToNat] at ho7; rw [← Ny227.out] at ho7)); have n0_ := Aside0.mk (Kd.R_lower ho7 (below_size qq1)); have n1_ := Aside0.mk (below_step qq1 hb); clear HB; have HO229 := n0_; have HB := n1_; clear n0_ n1_; clear hb ho7)); try go_wp2_with (first | (go_at_call 13; (with_reducible refine (impl_NetWhole.calls k a0 _ _ l1 true _ ?side1 ?side2 A3.out).mono ?_); (case side1 => exact qq15 HR1.out); (case side2 => exact HC1.out); rintro e w5 ⟨rfl, hb⟩; have n0_ := Aside0.mk (below_step qq1 hb); clear HB; have HB := n0_; clear n0_; (try clear hb); (try clear hb2); (try clear hk); (try clear hi)) | ((with_reducible refine gate_dst (N := 15) rfl ?_); refine Kd.R_lit (Kd.int .i64) _ 3 ?hg (N := 15) ?hd (xs := ([] : List Int)) (inner := []) (ok := fun _ => True) (okp := fun _ => True) ?hr ?hp (fun _ hk => hk) trivial (Below.refl _ _) (Nat.le_refl _) (by simp) ?_; (case hd => rfl); (case hg => rfl); (case hr => exact qq16); (case hp => exact (Reps.none _ _)); intro v228 w6 ho7 hb hg_ hnew_; clear hg_ hnew_; (first | rw [← Ny227.out] at ho7 | (simp only [Int.reduceToNat] at ho7; rw [← Ny227.out] at ho7)); have n0_ := Aside0.mk (Kd.R_lower ho7 (below_size qq1)); have n1_ := Aside0.mk (below_step qq1 hb); clear HB; have HO229 := n0_; have HB := n1_; clear n0_ n1_; clear hb ho7)))
    go_loopg [6, 18] k (fun kq v6 v18 w' => ∃ (x6_1 : List Int) (x18_1 : Int), v18 = .int .i64 x18_1 ∧ Aside0 (impl_TreeFirst.l0 kq a0 l1 x6_1 l1 (l1.length : Int) x18_1 = some (r1, r2)) ∧ Aside0 (kq ≤ k) ∧ Aside0 (Kd.R (Kd.int .i64) 3 w' w.heap.size (fun _ => True) v6 x6_1) ∧ Aside0 (Below w.heap.size w w'))
    case atStart => exact ⟨(y227), (0), qq13, H', ⟨Nat.le_refl _⟩, ⟨qq2 HO229.out⟩, ⟨qq1⟩⟩
    case round =>
      clear H'
      try clear c1
      try clear p2
      try clear c4
      obtain ⟨x6_1, x18_1, rfl, HA, HK1, HO_6, HB⟩ := hrel
      cases gk with
      | zero => exact absurd HA.out (by simp [impl_TreeFirst.l0])
      | succ k1 =>
        have H := HA.out
        clear HA
        simp only [impl_TreeFirst.l0] at H
        by_cases c8 : x18_1 < (l1.length : Int)
        · rw [if_pos c8] at H
          have c8b0 : decide (x18_1 < (l1.length : Int)) = true := decide_eq_true c8
          clear c8
          by_cases c9 : 0 ≤ x18_1
          · rw [if_pos c9] at H
            have c9b0 : decide (0 ≤ x18_1) = true := decide_eq_true c9
            clear c9
            by_cases c10 : x18_1 < (l1.length : Int)
            · rw [if_pos c10] at H
              have c10b0 : decide (x18_1 < (l1.length : Int)) = true := decide_eq_true c10
              clear c10
              replace H := Option.bind_eq_some_iff.mp H
              obtain ⟨t232, A110, H⟩ := H
              replace H : ((impl_leastLinked.f a0 t232).bind fun t235 => (if 0 ≤ ((rd_T32 l1 x18_1).f0) then (if ((rd_T32 l1 x18_1).f0) < (t235.length : Int) then (if 0 ≤ ((rd_T32 l1 x18_1).f1) then (if ((rd_T32 l1 x18_1).f1) < (t235.length : Int) then (if (rd t235 ((rd_T32 l1 x18_1).f0)) = (rd t235 ((rd_T32 l1 x18_1).f1)) then (impl_TreeFirst.l0 k1 a0 l1 x6_1 l1 (l1.length : Int) (wrap64 (x18_1 + 1))) else (if x6_1.length < 17592186044416 then (impl_TreeFirst.l0 k1 a0 l1 (x6_1 ++ [x18_1]) l1 (l1.length : Int) (wrap64 (x18_1 + 1))) else (none))) else (none)) else (none)) else (none)) else (none))) = some (r1, r2) := H
              have A11 := Aside0.mk A110
              clear A110
              replace H := Option.bind_eq_some_iff.mp H
              obtain ⟨t235, A120, H⟩ := H
              replace H : (if 0 ≤ ((rd_T32 l1 x18_1).f0) then (if ((rd_T32 l1 x18_1).f0) < (t235.length : Int) then (if 0 ≤ ((rd_T32 l1 x18_1).f1) then (if ((rd_T32 l1 x18_1).f1) < (t235.length : Int) then (if (rd t235 ((rd_T32 l1 x18_1).f0)) = (rd t235 ((rd_T32 l1 x18_1).f1)) then (impl_TreeFirst.l0 k1 a0 l1 x6_1 l1 (l1.length : Int) (wrap64 (x18_1 + 1))) else (if x6_1.length < 17592186044416 then (impl_TreeFirst.l0 k1 a0 l1 (x6_1 ++ [x18_1]) l1 (l1.length : Int) (wrap64 (x18_1 + 1))) else (none))) else (none)) else (none)) else (none)) else (none)) = some (r1, r2) := H
              have A12 := Aside0.mk A120
              clear A120
              by_cases c13 : 0 ≤ ((rd_T32 l1 x18_1).f0)
              · rw [if_pos c13] at H
                have c13b0 : decide (0 ≤ ((rd_T32 l1 x18_1).f0)) = true := decide_eq_true c13
                clear c13
                by_cases c14 : ((rd_T32 l1 x18_1).f0) < (t235.length : Int)
                · rw [if_pos c14] at H
                  have c14b0 : decide (((rd_T32 l1 x18_1).f0) < (t235.length : Int)) = true := decide_eq_true c14
                  clear c14
                  by_cases c15 : 0 ≤ ((rd_T32 l1 x18_1).f1)
                  · rw [if_pos c15] at H
                    have c15b0 : decide (0 ≤ ((rd_T32 l1 x18_1).f1)) = true := decide_eq_true c15
                    clear c15
                    by_cases c16 : ((rd_T32 l1 x18_1).f1) < (t235.length : Int)
                    · rw [if_pos c16] at H
                      have c16b0 : decide (((rd_T32 l1 x18_1).f1) < (t235.length : Int)) = true := decide_eq_true c16
                      clear c16
                      by_cases c17 : (rd t235 ((rd_T32 l1 x18_1).f0)) = (rd t235 ((rd_T32 l1 x18_1).f1))
                      · rw [if_pos c17] at H
                        have c17b0 : ((rd t235 ((rd_T32 l1 x18_1).f0)) == (rd t235 ((rd_T32 l1 x18_1).f1))) = true := beq_iff_eq.mpr c17
                        have c17b1 : ((rd t235 ((rd_T32 l1 x18_1).f0)) != (rd t235 ((rd_T32 l1 x18_1).f1))) = false := bne_eq_false_iff_eq.mpr c17
                        clear c17
                        have H' := Aside0.mk H
                        clear H
                        have p230 : 0 ≤ (x18_1 : Int) := of_decide_eq_true qq3
                        have q230 : x18_1 < (l1.length : Int) := of_decide_eq_true qq3
                        obtain ⟨ad230, e230, hx230_0, hx230_1, hx230_2, hx230_3⟩ := at_T32 HR1.out x18_1 p230 q230
                        cases e230
                        replace hx230_0 := (HB.out.cell (World.block_lt_of_cell? w _ hx230_0)).trans hx230_0
                        replace hx230_1 := (HB.out.cell (World.block_lt_of_cell? w _ hx230_1)).trans hx230_1
                        replace hx230_2 := (HB.out.cell (World.block_lt_of_cell? w _ hx230_2)).trans hx230_2
                        replace hx230_3 := (HB.out.cell (World.block_lt_of_cell? w _ hx230_3)).trans hx230_3
                        replace p230 := eq_true p230
                        replace q230 := eq_true q230
                        go_wp2_with (first | ((with_reducible refine gate_dst (N := 8) rfl ?_); refine box_event ?hg (N := 8) ?hd (cs := #[.int .i64 0, .int .i64 0, .int .i64 0, .int .i64 0]) (t := 32) ?hr ?_; (case hd => rfl); (case hg => rfl); (case hr => exact qq16); intro gb231 hg w18 hbox hb; have n0_ := Aside0.mk (Kd.R_below (qq2 HO_6.out) hb); have n1_ := Aside0.mk (below_step qq1 hb); have n2_ := Aside0.mk (hbox); have n3_ := Aside0.mk ((qq33 : w.heap.size ≤ gb231)); have n4_ := Aside0.mk ((qq33 : w.heap.size ≤ gb231)); clear HO_6; clear HB; have HO_6 := n0_; have HB := n1_; have BK231 := n2_; have GW231 := n3_; have GE231 := n4_; clear n0_ n1_ n2_ n3_ n4_; clear hb hbox hg; have hcz19_0 : w18.cell? ⟨gb231, 0, none⟩ = some (.int .i64 0) := (blk_cell BK231.out 0).trans rfl; have hcz19_1 : w18.cell? ⟨gb231, 1, none⟩ = some (.int .i64 0) := (blk_cell BK231.out 1).trans rfl; have hcz19_2 : w18.cell? ⟨gb231, 2, none⟩ = some (.int .i64 0) := (blk_cell BK231.out 2).trans rfl; have hcz19_3 : w18.cell? ⟨gb231, 3, none⟩ = some (.int .i64 0) := (blk_cell BK231.out 3).trans rfl; have hfz19_0 := blk_frozen BK231.out 0; have hfz19_1 := blk_frozen BK231.out 1; have hfz19_2 := blk_frozen BK231.out 2; have hfz19_3 := blk_frozen BK231.out 3; obtain ⟨Ao20, co20, eo20⟩ := Kd.R_slice HO_6.out; subst eo20) | (go_at_call 27; (with_reducible refine (impl_pick.calls k1 _ _ l1 _ _ x6_1 t232 _ ?side1 ?side2 ?side3 ?side4 A11.out).mono ?_); (case side1 => exact qq66); (case side2 => exact HC1.out); (case side3 => exact qq59); (case side4 => exact qq50 HO_6.out); rintro e w21 ⟨v233, rfl, ho0, hb⟩; have n0_ := Aside0.mk (Kd.R_below qq14 hb); have n1_ := Aside0.mk (Kd.R_lower (Kd.R_newB ho0 (g := gb231) (o := .cells #[.int .i64 ((rd_T32 l1 x18_1).f0), .int .i64 ((rd_T32 l1 x18_1).f1), .int .i64 ((rd_T32 l1 x18_1).f2), .int .i64 ((rd_T32 l1 x18_1).f3)] 32 (0, 0)) qq7) (below_size (qq4 HB.out GE231.out))); have n2_ := Aside0.mk (blk_below (g := gb231) (o := .cells #[.int .i64 ((rd_T32 l1 x18_1).f0), .int .i64 ((rd_T32 l1 x18_1).f1), .int .i64 ((rd_T32 l1 x18_1).f2), .int .i64 ((rd_T32 l1 x18_1).f3)] 32 (0, 0)) qq7 hb); have n3_ := Aside0.mk (below_step (qq4 HB.out GE231.out) hb); clear HO_6; clear BK231; clear HB; have HO_6 := n0_; have HO234 := n1_; have BK231 := n2_; have HB := n3_; clear n0_ n1_ n2_ n3_; (try clear hb); (try clear hb2); (try clear hk); (try clear hi); (try clear ho0); obtain ⟨Ao22, co22, eo22⟩ := Kd.R_slice HO234.out; subst eo22) | (go_at_call 26; (with_reducible refine (impl_leastLinked.calls a0 _ _ t232 t235 _ ?side1 ?side2 A12.out).mono ?_); (case side1 => exact qq12 HO234.out); (case side2 => exact qq50 HO234.out); rintro e w23 ⟨v236, rfl, ho0, hb⟩; have n0_ := Aside0.mk (Kd.R_elder' (qq2 HO_6.out) (Kd.R_base ho0) hb); have n1_ := Aside0.mk (Kd.R_below (qq2 HO234.out) hb); have n2_ := Aside0.mk (Kd.R_lower (Kd.R_new' ho0 (Kd.R_lt (qq2 HO_6.out))) (below_size (qq4 HB.out GE231.out))); have n3_ := Aside0.mk (bbl_ BK231.out hb); have n4_ := Aside0.mk (below_step (qq4 HB.out GE231.out) hb); clear HO_6; clear HO234; clear BK231; clear HB; have HO_6 := n0_; have HO234 := n1_; have HO237 := n2_; have BK231 := n3_; have HB := n4_; clear n0_ n1_ n2_ n3_ n4_; (try clear hb); (try clear hb2); (try clear hk); (try clear hi); (try clear ho0); have hcz24_0 : w23.cell? ⟨gb231, 0, none⟩ = some (.int .i64 ((rd_T32 l1 x18_1).f0)) := (blk_cell BK231.out 0).trans rfl; have hcz24_1 : w23.cell? ⟨gb231, 1, none⟩ = some (.int .i64 ((rd_T32 l1 x18_1).f1)) := (blk_cell BK231.out 1).trans rfl; have hcz24_2 : w23.cell? ⟨gb231, 2, none⟩ = some (.int .i64 ((rd_T32 l1 x18_1).f2)) := (blk_cell BK231.out 2).trans rfl; have hcz24_3 : w23.cell? ⟨gb231, 3, none⟩ = some (.int .i64 ((rd_T32 l1 x18_1).f3)) := (blk_cell BK231.out 3).trans rfl; have hfz24_0 := blk_frozen BK231.out 0; have hfz24_1 := blk_frozen BK231.out 1; have hfz24_2 := blk_frozen BK231.out 2; have hfz24_3 := blk_frozen BK231.out 3; obtain ⟨Ao25, co25, eo25⟩ := Kd.R_slice HO237.out; subst eo25; have p238 : 0 ≤ (((rd_T32 l1 x18_1).f0) : Int) := of_decide_eq_true qq3; have q238 : ((rd_T32 l1 x18_1).f0) < (t235.length : Int) := of_decide_eq_true qq3; obtain ⟨ad238, e238, hx238_0⟩ := Kd.at_int (Kd.R_reads' HO237.out).2.2 ((rd_T32 l1 x18_1).f0) p238 q238; cases e238; replace p238 := eq_true p238; replace q238 := eq_true q238; have p239 : 0 ≤ (((rd_T32 l1 x18_1).f1) : Int) := of_decide_eq_true qq3; have q239 : ((rd_T32 l1 x18_1).f1) < (t235.length : Int) := of_decide_eq_true qq3; obtain ⟨ad239, e239, hx239_0⟩ := Kd.at_int (Kd.R_reads' HO237.out).2.2 ((rd_T32 l1 x18_1).f1) p239 q239; obtain rfl : ad238 = ad239 := (by injection e239); replace p239 := eq_true p239; replace q239 := eq_true q239))
                        repeat (go_quiet (first | ((with_reducible refine gate_dst (N := 8) rfl ?_); refine box_event ?hg (N := 8) ?hd (cs := #[.int .i64 0, .int .i64 0, .int .i64 0, .int .i64 0]) (t := 32) ?hr ?_; (case hd => rfl); (case hg => rfl); (case hr => exact qq16); intro gb231 hg w18 hbox hb; have n0_ := Aside0.mk (Kd.R_below (qq2 HO_6.out) hb); have n1_ := Aside0.mk (below_step qq1 hb); have n2_ := Aside0.mk (hbox); have n3_ := Aside0.mk ((qq33 : w.heap.size ≤ gb231)); have n4_ := Aside0.mk ((qq33 : w.heap.size ≤ gb231)); clear HO_6; clear HB; have HO_6 := n0_; have HB := n1_; have BK231 := n2_; have GW231 := n3_; have GE231 := n4_; clear n0_ n1_ n2_ n3_ n4_; clear hb hbox hg; have hcz19_0 : w18.cell? ⟨gb231, 0, none⟩ = some (.int .i64 0) := (blk_cell BK231.out 0).trans rfl; have hcz19_1 : w18.cell? ⟨gb231, 1, none⟩ = some (.int .i64 0) := (blk_cell BK231.out 1).trans rfl; have hcz19_2 : w18.cell? ⟨gb231, 2, none⟩ = some (.int .i64 0) := (blk_cell BK231.out 2).trans rfl; have hcz19_3 : w18.cell? ⟨gb231, 3, none⟩ = some (.int .i64 0) := (blk_cell BK231.out 3).trans rfl; have hfz19_0 := blk_frozen BK231.out 0; have hfz19_1 := blk_frozen BK231.out 1; have hfz19_2 := blk_frozen BK231.out 2; have hfz19_3 := blk_frozen BK231.out 3; obtain ⟨Ao20, co20, eo20⟩ := Kd.R_slice HO_6.out; subst eo20) | (go_at_call 27; (with_reducible refine (impl_pick.calls k1 _ _ l1 _ _ x6_1 t232 _ ?side1 ?side2 ?side3 ?side4 A11.out).mono ?_); (case side1 => exact qq66); (case side2 => exact HC1.out); (case side3 => exact qq59); (case side4 => exact qq50 HO_6.out); rintro e w21 ⟨v233, rfl, ho0, hb⟩; have n0_ := Aside0.mk (Kd.R_below qq14 hb); have n1_ := Aside0.mk (Kd.R_lower (Kd.R_newB ho0 (g := gb231) (o := .cells #[.int .i64 ((rd_T32 l1 x18_1).f0), .int .i64 ((rd_T32 l1 x18_1).f1), .int .i64 ((rd_T32 l1 x18_1).f2), .int .i64 ((rd_T32 l1 x18_1).f3)] 32 (0, 0)) qq7) (below_size (qq4 HB.out GE231.out))); have n2_ := Aside0.mk (blk_below (g := gb231) (o := .cells #[.int .i64 ((rd_T32 l1 x18_1).f0), .int .i64 ((rd_T32 l1 x18_1).f1), .int .i64 ((rd_T32 l1 x18_1).f2), .int .i64 ((rd_T32 l1 x18_1).f3)] 32 (0, 0)) qq7 hb); have n3_ := Aside0.mk (below_step (qq4 HB.out GE231.out) hb); clear HO_6; clear BK231; clear HB; have HO_6 := n0_; have HO234 := n1_; have BK231 := n2_; have HB := n3_; clear n0_ n1_ n2_ n3_; (try clear hb); (try clear hb2); (try clear hk); (try clear hi); (try clear ho0); obtain ⟨Ao22, co22, eo22⟩ := Kd.R_slice HO234.out; subst eo22) | (go_at_call 26; (with_reducible refine (impl_leastLinked.calls a0 _ _ t232 t235 _ ?side1 ?side2 A12.out).mono ?_); (case side1 => exact qq12 HO234.out); (case side2 => exact qq50 HO234.out); rintro e w23 ⟨v236, rfl, ho0, hb⟩; have n0_ := Aside0.mk (Kd.R_elder' (qq2 HO_6.out) (Kd.R_base ho0) hb); have n1_ := Aside0.mk (Kd.R_below (qq2 HO234.out) hb); have n2_ := Aside0.mk (Kd.R_lower (Kd.R_new' ho0 (Kd.R_lt (qq2 HO_6.out))) (below_size (qq4 HB.out GE231.out))); have n3_ := Aside0.mk (bbl_ BK231.out hb); have n4_ := Aside0.mk (below_step (qq4 HB.out GE231.out) hb); clear HO_6; clear HO234; clear BK231; clear HB; have HO_6 := n0_; have HO234 := n1_; have HO237 := n2_; have BK231 := n3_; have HB := n4_; clear n0_ n1_ n2_ n3_ n4_; (try clear hb); (try clear hb2); (try clear hk); (try clear hi); (try clear ho0); have hcz24_0 : w23.cell? ⟨gb231, 0, none⟩ = some (.int .i64 ((rd_T32 l1 x18_1).f0)) := (blk_cell BK231.out 0).trans rfl; have hcz24_1 : w23.cell? ⟨gb231, 1, none⟩ = some (.int .i64 ((rd_T32 l1 x18_1).f1)) := (blk_cell BK231.out 1).trans rfl; have hcz24_2 : w23.cell? ⟨gb231, 2, none⟩ = some (.int .i64 ((rd_T32 l1 x18_1).f2)) := (blk_cell BK231.out 2).trans rfl; have hcz24_3 : w23.cell? ⟨gb231, 3, none⟩ = some (.int .i64 ((rd_T32 l1 x18_1).f3)) := (blk_cell BK231.out 3).trans rfl; have hfz24_0 := blk_frozen BK231.out 0; have hfz24_1 := blk_frozen BK231.out 1; have hfz24_2 := blk_frozen BK231.out 2; have hfz24_3 := blk_frozen BK231.out 3; obtain ⟨Ao25, co25, eo25⟩ := Kd.R_slice HO237.out; subst eo25; have p238 : 0 ≤ (((rd_T32 l1 x18_1).f0) : Int) := of_decide_eq_true qq3; have q238 : ((rd_T32 l1 x18_1).f0) < (t235.length : Int) := of_decide_eq_true qq3; obtain ⟨ad238, e238, hx238_0⟩ := Kd.at_int (Kd.R_reads' HO237.out).2.2 ((rd_T32 l1 x18_1).f0) p238 q238; cases e238; replace p238 := eq_true p238; replace q238 := eq_true q238; have p239 : 0 ≤ (((rd_T32 l1 x18_1).f1) : Int) := of_decide_eq_true qq3; have q239 : ((rd_T32 l1 x18_1).f1) < (t235.length : Int) := of_decide_eq_true qq3; obtain ⟨ad239, e239, hx239_0⟩ := Kd.at_int (Kd.R_reads' HO237.out).2.2 ((rd_T32 l1 x18_1).f1) p239 q239; obtain rfl : ad238 = ad239 := (by injection e239); replace p239 := eq_true p239; replace q239 := eq_true q239)); try go_wp2_with (first | ((with_reducible refine gate_dst (N := 8) rfl ?_); refine box_event ?hg (N := 8) ?hd (cs := #[.int .i64 0, .int .i64 0, .int .i64 0, .int .i64 0]) (t := 32) ?hr ?_; (case hd => rfl); (case hg => rfl); (case hr => exact qq16); intro gb231 hg w18 hbox hb; have n0_ := Aside0.mk (Kd.R_below (qq2 HO_6.out) hb); have n1_ := Aside0.mk (below_step qq1 hb); have n2_ := Aside0.mk (hbox); have n3_ := Aside0.mk ((qq33 : w.heap.size ≤ gb231)); have n4_ := Aside0.mk ((qq33 : w.heap.size ≤ gb231)); clear HO_6; clear HB; have HO_6 := n0_; have HB := n1_; have BK231 := n2_; have GW231 := n3_; have GE231 := n4_; clear n0_ n1_ n2_ n3_ n4_; clear hb hbox hg; have hcz19_0 : w18.cell? ⟨gb231, 0, none⟩ = some (.int .i64 0) := (blk_cell BK231.out 0).trans rfl; have hcz19_1 : w18.cell? ⟨gb231, 1, none⟩ = some (.int .i64 0) := (blk_cell BK231.out 1).trans rfl; have hcz19_2 : w18.cell? ⟨gb231, 2, none⟩ = some (.int .i64 0) := (blk_cell BK231.out 2).trans rfl; have hcz19_3 : w18.cell? ⟨gb231, 3, none⟩ = some (.int .i64 0) := (blk_cell BK231.out 3).trans rfl; have hfz19_0 := blk_frozen BK231.out 0; have hfz19_1 := blk_frozen BK231.out 1; have hfz19_2 := blk_frozen BK231.out 2; have hfz19_3 := blk_frozen BK231.out 3; obtain ⟨Ao20, co20, eo20⟩ := Kd.R_slice HO_6.out; subst eo20) | (go_at_call 27; (with_reducible refine (impl_pick.calls k1 _ _ l1 _ _ x6_1 t232 _ ?side1 ?side2 ?side3 ?side4 A11.out).mono ?_); (case side1 => exact qq66); (case side2 => exact HC1.out); (case side3 => exact qq59); (case side4 => exact qq50 HO_6.out); rintro e w21 ⟨v233, rfl, ho0, hb⟩; have n0_ := Aside0.mk (Kd.R_below qq14 hb); have n1_ := Aside0.mk (Kd.R_lower (Kd.R_newB ho0 (g := gb231) (o := .cells #[.int .i64 ((rd_T32 l1 x18_1).f0), .int .i64 ((rd_T32 l1 x18_1).f1), .int .i64 ((rd_T32 l1 x18_1).f2), .int .i64 ((rd_T32 l1 x18_1).f3)] 32 (0, 0)) qq7) (below_size (qq4 HB.out GE231.out))); have n2_ := Aside0.mk (blk_below (g := gb231) (o := .cells #[.int .i64 ((rd_T32 l1 x18_1).f0), .int .i64 ((rd_T32 l1 x18_1).f1), .int .i64 ((rd_T32 l1 x18_1).f2), .int .i64 ((rd_T32 l1 x18_1).f3)] 32 (0, 0)) qq7 hb); have n3_ := Aside0.mk (below_step (qq4 HB.out GE231.out) hb); clear HO_6; clear BK231; clear HB; have HO_6 := n0_; have HO234 := n1_; have BK231 := n2_; have HB := n3_; clear n0_ n1_ n2_ n3_; (try clear hb); (try clear hb2); (try clear hk); (try clear hi); (try clear ho0); obtain ⟨Ao22, co22, eo22⟩ := Kd.R_slice HO234.out; subst eo22) | (go_at_call 26; (with_reducible refine (impl_leastLinked.calls a0 _ _ t232 t235 _ ?side1 ?side2 A12.out).mono ?_); (case side1 => exact qq12 HO234.out); (case side2 => exact qq50 HO234.out); rintro e w23 ⟨v236, rfl, ho0, hb⟩; have n0_ := Aside0.mk (Kd.R_elder' (qq2 HO_6.out) (Kd.R_base ho0) hb); have n1_ := Aside0.mk (Kd.R_below (qq2 HO234.out) hb); have n2_ := Aside0.mk (Kd.R_lower (Kd.R_new' ho0 (Kd.R_lt (qq2 HO_6.out))) (below_size (qq4 HB.out GE231.out))); have n3_ := Aside0.mk (bbl_ BK231.out hb); have n4_ := Aside0.mk (below_step (qq4 HB.out GE231.out) hb); clear HO_6; clear HO234; clear BK231; clear HB; have HO_6 := n0_; have HO234 := n1_; have HO237 := n2_; have BK231 := n3_; have HB := n4_; clear n0_ n1_ n2_ n3_ n4_; (try clear hb); (try clear hb2); (try clear hk); (try clear hi); (try clear ho0); have hcz24_0 : w23.cell? ⟨gb231, 0, none⟩ = some (.int .i64 ((rd_T32 l1 x18_1).f0)) := (blk_cell BK231.out 0).trans rfl; have hcz24_1 : w23.cell? ⟨gb231, 1, none⟩ = some (.int .i64 ((rd_T32 l1 x18_1).f1)) := (blk_cell BK231.out 1).trans rfl; have hcz24_2 : w23.cell? ⟨gb231, 2, none⟩ = some (.int .i64 ((rd_T32 l1 x18_1).f2)) := (blk_cell BK231.out 2).trans rfl; have hcz24_3 : w23.cell? ⟨gb231, 3, none⟩ = some (.int .i64 ((rd_T32 l1 x18_1).f3)) := (blk_cell BK231.out 3).trans rfl; have hfz24_0 := blk_frozen BK231.out 0; have hfz24_1 := blk_frozen BK231.out 1; have hfz24_2 := blk_frozen BK231.out 2; have hfz24_3 := blk_frozen BK231.out 3; obtain ⟨Ao25, co25, eo25⟩ := Kd.R_slice HO237.out; subst eo25; have p238 : 0 ≤ (((rd_T32 l1 x18_1).f0) : Int) := of_decide_eq_true qq3; have q238 : ((rd_T32 l1 x18_1).f0) < (t235.length : Int) := of_decide_eq_true qq3; obtain ⟨ad238, e238, hx238_0⟩ := Kd.at_int (Kd.R_reads' HO237.out).2.2 ((rd_T32 l1 x18_1).f0) p238 q238; cases e238; replace p238 := eq_true p238; replace q238 := eq_true q238; have p239 : 0 ≤ (((rd_T32 l1 x18_1).f1) : Int) := of_decide_eq_true qq3; have q239 : ((rd_T32 l1 x18_1).f1) < (t235.length : Int) := of_decide_eq_true qq3; obtain ⟨ad239, e239, hx239_0⟩ := Kd.at_int (Kd.R_reads' HO237.out).2.2 ((rd_T32 l1 x18_1).f1) p239 q239; obtain rfl : ad238 = ad239 := (by injection e239); replace p239 := eq_true p239; replace q239 := eq_true q239)))
                        go_roundg k1
                        case measure => have := HK1.out; omega
                        case rel => exact ⟨(x6_1), (wrap64 (x18_1 + 1)), qq13, H', ⟨by have := HK1.out; omega⟩, ⟨qq17 HO_6.out⟩, ⟨qq4 HB.out GE231.out⟩⟩
                      · rw [if_neg c17] at H
                        have c17b0 : ((rd t235 ((rd_T32 l1 x18_1).f0)) == (rd t235 ((rd_T32 l1 x18_1).f1))) = false := beq_eq_false_iff_ne.mpr c17
                        have c17b1 : ((rd t235 ((rd_T32 l1 x18_1).f0)) != (rd t235 ((rd_T32 l1 x18_1).f1))) = true := bne_iff_ne.mpr c17
                        by_cases c26 : x6_1.length < 17592186044416
                        · rw [if_pos c26] at H
                          have LMc26 := Aside0.mk c26
                          clear c26
                          obtain ⟨y240, hy240⟩ : ∃ y_ : List Int, y_ = (x6_1 ++ [x18_1]) := ⟨_, rfl⟩
                          replace H : (impl_TreeFirst.l0 k1 a0 l1 y240 l1 (l1.length : Int) (wrap64 (x18_1 + 1))) = some (r1, r2) := by first | (rw [hy240]; with_reducible exact H) | (have H2_ := (Option.bind_some _ _).symm.trans H; rw [hy240]; with_reducible exact H2_) | (have H2_ := (Option.bind_some _ _).symm.trans H; with_reducible exact H2_) | with_reducible exact H | (rw [hy240]; exact H) | exact H
                          have Ny240 := Aside0.mk hy240
                          clear hy240
                          have H' := Aside0.mk H
                          clear H
                          have p230 : 0 ≤ (x18_1 : Int) := of_decide_eq_true qq3
                          have q230 : x18_1 < (l1.length : Int) := of_decide_eq_true qq3
                          obtain ⟨ad230, e230, hx230_0, hx230_1, hx230_2, hx230_3⟩ := at_T32 HR1.out x18_1 p230 q230
                          cases e230
                          replace hx230_0 := (HB.out.cell (World.block_lt_of_cell? w _ hx230_0)).trans hx230_0
                          replace hx230_1 := (HB.out.cell (World.block_lt_of_cell? w _ hx230_1)).trans hx230_1
                          replace hx230_2 := (HB.out.cell (World.block_lt_of_cell? w _ hx230_2)).trans hx230_2
                          replace hx230_3 := (HB.out.cell (World.block_lt_of_cell? w _ hx230_3)).trans hx230_3
                          replace p230 := eq_true p230
                          replace q230 := eq_true q230
                          go_wp2_with (first | ((with_reducible refine gate_dst (N := 8) rfl ?_); refine box_event ?hg (N := 8) ?hd (cs := #[.int .i64 0, .int .i64 0, .int .i64 0, .int .i64 0]) (t := 32) ?hr ?_; (case hd => rfl); (case hg => rfl); (case hr => exact qq16); intro gb231 hg w27 hbox hb; have n0_ := Aside0.mk (Kd.R_below (qq2 HO_6.out) hb); have n1_ := Aside0.mk (below_step qq1 hb); have n2_ := Aside0.mk (hbox); have n3_ := Aside0.mk ((qq33 : w.heap.size ≤ gb231)); have n4_ := Aside0.mk ((qq33 : w.heap.size ≤ gb231)); clear HO_6; clear HB; have HO_6 := n0_; have HB := n1_; have BK231 := n2_; have GW231 := n3_; have GE231 := n4_; clear n0_ n1_ n2_ n3_ n4_; clear hb hbox hg; have hcz28_0 : w27.cell? ⟨gb231, 0, none⟩ = some (.int .i64 0) := (blk_cell BK231.out 0).trans rfl; have hcz28_1 : w27.cell? ⟨gb231, 1, none⟩ = some (.int .i64 0) := (blk_cell BK231.out 1).trans rfl; have hcz28_2 : w27.cell? ⟨gb231, 2, none⟩ = some (.int .i64 0) := (blk_cell BK231.out 2).trans rfl; have hcz28_3 : w27.cell? ⟨gb231, 3, none⟩ = some (.int .i64 0) := (blk_cell BK231.out 3).trans rfl; have hfz28_0 := blk_frozen BK231.out 0; have hfz28_1 := blk_frozen BK231.out 1; have hfz28_2 := blk_frozen BK231.out 2; have hfz28_3 := blk_frozen BK231.out 3; obtain ⟨Ao29, co29, eo29⟩ := Kd.R_slice HO_6.out; subst eo29) | (go_at_call 27; (with_reducible refine (impl_pick.calls k1 _ _ l1 _ _ x6_1 t232 _ ?side1 ?side2 ?side3 ?side4 A11.out).mono ?_); (case side1 => exact qq66); (case side2 => exact HC1.out); (case side3 => exact qq60); (case side4 => exact qq50 HO_6.out); rintro e w30 ⟨v233, rfl, ho0, hb⟩; have n0_ := Aside0.mk (Kd.R_below qq14 hb); have n1_ := Aside0.mk (Kd.R_lower (Kd.R_newB ho0 (g := gb231) (o := .cells #[.int .i64 ((rd_T32 l1 x18_1).f0), .int .i64 ((rd_T32 l1 x18_1).f1), .int .i64 ((rd_T32 l1 x18_1).f2), .int .i64 ((rd_T32 l1 x18_1).f3)] 32 (0, 0)) qq7) (below_size (qq4 HB.out GE231.out))); have n2_ := Aside0.mk (blk_below (g := gb231) (o := .cells #[.int .i64 ((rd_T32 l1 x18_1).f0), .int .i64 ((rd_T32 l1 x18_1).f1), .int .i64 ((rd_T32 l1 x18_1).f2), .int .i64 ((rd_T32 l1 x18_1).f3)] 32 (0, 0)) qq7 hb); have n3_ := Aside0.mk (below_step (qq4 HB.out GE231.out) hb); clear HO_6; clear BK231; clear HB; have HO_6 := n0_; have HO234 := n1_; have BK231 := n2_; have HB := n3_; clear n0_ n1_ n2_ n3_; (try clear hb); (try clear hb2); (try clear hk); (try clear hi); (try clear ho0); obtain ⟨Ao31, co31, eo31⟩ := Kd.R_slice HO234.out; subst eo31) | (go_at_call 26; (with_reducible refine (impl_leastLinked.calls a0 _ _ t232 t235 _ ?side1 ?side2 A12.out).mono ?_); (case side1 => exact qq12 HO234.out); (case side2 => exact qq50 HO234.out); rintro e w32 ⟨v236, rfl, ho0, hb⟩; have n0_ := Aside0.mk (Kd.R_elder' (qq2 HO_6.out) (Kd.R_base ho0) hb); have n1_ := Aside0.mk (Kd.R_below (qq2 HO234.out) hb); have n2_ := Aside0.mk (Kd.R_lower (Kd.R_new' ho0 (Kd.R_lt (qq2 HO_6.out))) (below_size (qq4 HB.out GE231.out))); have n3_ := Aside0.mk (bbl_ BK231.out hb); have n4_ := Aside0.mk (below_step (qq4 HB.out GE231.out) hb); clear HO_6; clear HO234; clear BK231; clear HB; have HO_6 := n0_; have HO234 := n1_; have HO237 := n2_; have BK231 := n3_; have HB := n4_; clear n0_ n1_ n2_ n3_ n4_; (try clear hb); (try clear hb2); (try clear hk); (try clear hi); (try clear ho0); have hcz33_0 : w32.cell? ⟨gb231, 0, none⟩ = some (.int .i64 ((rd_T32 l1 x18_1).f0)) := (blk_cell BK231.out 0).trans rfl; have hcz33_1 : w32.cell? ⟨gb231, 1, none⟩ = some (.int .i64 ((rd_T32 l1 x18_1).f1)) := (blk_cell BK231.out 1).trans rfl; have hcz33_2 : w32.cell? ⟨gb231, 2, none⟩ = some (.int .i64 ((rd_T32 l1 x18_1).f2)) := (blk_cell BK231.out 2).trans rfl; have hcz33_3 : w32.cell? ⟨gb231, 3, none⟩ = some (.int .i64 ((rd_T32 l1 x18_1).f3)) := (blk_cell BK231.out 3).trans rfl; have hfz33_0 := blk_frozen BK231.out 0; have hfz33_1 := blk_frozen BK231.out 1; have hfz33_2 := blk_frozen BK231.out 2; have hfz33_3 := blk_frozen BK231.out 3; obtain ⟨Ao34, co34, eo34⟩ := Kd.R_slice HO237.out; subst eo34; have p238 : 0 ≤ (((rd_T32 l1 x18_1).f0) : Int) := of_decide_eq_true qq3; have q238 : ((rd_T32 l1 x18_1).f0) < (t235.length : Int) := of_decide_eq_true qq3; obtain ⟨ad238, e238, hx238_0⟩ := Kd.at_int (Kd.R_reads' HO237.out).2.2 ((rd_T32 l1 x18_1).f0) p238 q238; cases e238; replace p238 := eq_true p238; replace q238 := eq_true q238; have p239 : 0 ≤ (((rd_T32 l1 x18_1).f1) : Int) := of_decide_eq_true qq3; have q239 : ((rd_T32 l1 x18_1).f1) < (t235.length : Int) := of_decide_eq_true qq3; obtain ⟨ad239, e239, hx239_0⟩ := Kd.at_int (Kd.R_reads' HO237.out).2.2 ((rd_T32 l1 x18_1).f1) p239 q239; obtain rfl : ad238 = ad239 := (by injection e239); replace p239 := eq_true p239; replace q239 := eq_true q239) | ((with_reducible refine gate_builtin (b := .append) (xs := #[.tmp 39, .tmp 41]) rfl ?_); at_builtin; refine Kd.R_append (Kd.int .i64) (w0 := w) w.heap.size rfl (.tmp 39) (.tmp 41) 27 3 (.int .i64 0) 8 rfl Try.underlying27 info3 rfl (by decide) (by omega) (.slice Ao29 x6_1.length co29) x6_1 x18_1 [.int .i64 x18_1] (fun k_ => some k_ ≠ (.slice (some ad238) t235.length co34 : Value).ownBlock) (fun _ => False) rfl rfl ?aP (fun _ hk => hk.elim) ?aF ?aO ?aB ?aS ?aL ?_; (case aP => exact rfl); (case aB => exact (qq4 HB.out GE231.out)); (case aF => exact qq57 HO237.out); (case aO => exact (qq21 HO_6.out)); (case aS => exact (below_size (qq4 HB.out GE231.out))); (case aL => have := LMc26.out; omega); intro v241 w35 ho hb hg hat; rw [← Ny240.out] at ho; have n0_ := Aside0.mk (blk_grown (g := gb231) (o := .cells #[.int .i64 ((rd_T32 l1 x18_1).f0), .int .i64 ((rd_T32 l1 x18_1).f1), .int .i64 ((rd_T32 l1 x18_1).f2), .int .i64 ((rd_T32 l1 x18_1).f3)] 32 (0, 0)) (qq23 BK231.out) hg (Kd.R_ne HO_6.out BK231.out (by decide))); have n1_ := Aside0.mk (Kd.R_over' (qq2 HO234.out) (Kd.R_typed (qq2 HO_6.out)) (by decide) hg); have n2_ := Aside0.mk (Kd.R_after (ok := (fun _ => True)) (qq2 HO237.out) hg hat); have n3_ := Aside0.mk (hb); have n4_ := Aside0.mk (ho); clear BK231; clear HO234; clear HO237; clear HB; clear HO_6; have BK231 := n0_; have HO234 := n1_; have HO237 := n2_; have HB := n3_; have HO242 := n4_; clear n0_ n1_ n2_ n3_ n4_; clear ho hb hg hat))
                          repeat (go_quiet (first | ((with_reducible refine gate_dst (N := 8) rfl ?_); refine box_event ?hg (N := 8) ?hd (cs := #[.int .i64 0, .int .i64 0, .int .i64 0, .int .i64 0]) (t := 32) ?hr ?_; (case hd => rfl); (case hg => rfl); (case hr => exact qq16); intro gb231 hg w27 hbox hb; have n0_ := Aside0.mk (Kd.R_below (qq2 HO_6.out) hb); have n1_ := Aside0.mk (below_step qq1 hb); have n2_ := Aside0.mk (hbox); have n3_ := Aside0.mk ((qq33 : w.heap.size ≤ gb231)); have n4_ := Aside0.mk ((qq33 : w.heap.size ≤ gb231)); clear HO_6; clear HB; have HO_6 := n0_; have HB := n1_; have BK231 := n2_; have GW231 := n3_; have GE231 := n4_; clear n0_ n1_ n2_ n3_ n4_; clear hb hbox hg; have hcz28_0 : w27.cell? ⟨gb231, 0, none⟩ = some (.int .i64 0) := (blk_cell BK231.out 0).trans rfl; have hcz28_1 : w27.cell? ⟨gb231, 1, none⟩ = some (.int .i64 0) := (blk_cell BK231.out 1).trans rfl; have hcz28_2 : w27.cell? ⟨gb231, 2, none⟩ = some (.int .i64 0) := (blk_cell BK231.out 2).trans rfl; have hcz28_3 : w27.cell? ⟨gb231, 3, none⟩ = some (.int .i64 0) := (blk_cell BK231.out 3).trans rfl; have hfz28_0 := blk_frozen BK231.out 0; have hfz28_1 := blk_frozen BK231.out 1; have hfz28_2 := blk_frozen BK231.out 2; have hfz28_3 := blk_frozen BK231.out 3; obtain ⟨Ao29, co29, eo29⟩ := Kd.R_slice HO_6.out; subst eo29) | (go_at_call 27; (with_reducible refine (impl_pick.calls k1 _ _ l1 _ _ x6_1 t232 _ ?side1 ?side2 ?side3 ?side4 A11.out).mono ?_); (case side1 => exact qq66); (case side2 => exact HC1.out); (case side3 => exact qq60); (case side4 => exact qq50 HO_6.out); rintro e w30 ⟨v233, rfl, ho0, hb⟩; have n0_ := Aside0.mk (Kd.R_below qq14 hb); have n1_ := Aside0.mk (Kd.R_lower (Kd.R_newB ho0 (g := gb231) (o := .cells #[.int .i64 ((rd_T32 l1 x18_1).f0), .int .i64 ((rd_T32 l1 x18_1).f1), .int .i64 ((rd_T32 l1 x18_1).f2), .int .i64 ((rd_T32 l1 x18_1).f3)] 32 (0, 0)) qq7) (below_size (qq4 HB.out GE231.out))); have n2_ := Aside0.mk (blk_below (g := gb231) (o := .cells #[.int .i64 ((rd_T32 l1 x18_1).f0), .int .i64 ((rd_T32 l1 x18_1).f1), .int .i64 ((rd_T32 l1 x18_1).f2), .int .i64 ((rd_T32 l1 x18_1).f3)] 32 (0, 0)) qq7 hb); have n3_ := Aside0.mk (below_step (qq4 HB.out GE231.out) hb); clear HO_6; clear BK231; clear HB; have HO_6 := n0_; have HO234 := n1_; have BK231 := n2_; have HB := n3_; clear n0_ n1_ n2_ n3_; (try clear hb); (try clear hb2); (try clear hk); (try clear hi); (try clear ho0); obtain ⟨Ao31, co31, eo31⟩ := Kd.R_slice HO234.out; subst eo31) | (go_at_call 26; (with_reducible refine (impl_leastLinked.calls a0 _ _ t232 t235 _ ?side1 ?side2 A12.out).mono ?_); (case side1 => exact qq12 HO234.out); (case side2 => exact qq50 HO234.out); rintro e w32 ⟨v236, rfl, ho0, hb⟩; have n0_ := Aside0.mk (Kd.R_elder' (qq2 HO_6.out) (Kd.R_base ho0) hb); have n1_ := Aside0.mk (Kd.R_below (qq2 HO234.out) hb); have n2_ := Aside0.mk (Kd.R_lower (Kd.R_new' ho0 (Kd.R_lt (qq2 HO_6.out))) (below_size (qq4 HB.out GE231.out))); have n3_ := Aside0.mk (bbl_ BK231.out hb); have n4_ := Aside0.mk (below_step (qq4 HB.out GE231.out) hb); clear HO_6; clear HO234; clear BK231; clear HB; have HO_6 := n0_; have HO234 := n1_; have HO237 := n2_; have BK231 := n3_; have HB := n4_; clear n0_ n1_ n2_ n3_ n4_; (try clear hb); (try clear hb2); (try clear hk); (try clear hi); (try clear ho0); have hcz33_0 : w32.cell? ⟨gb231, 0, none⟩ = some (.int .i64 ((rd_T32 l1 x18_1).f0)) := (blk_cell BK231.out 0).trans rfl; have hcz33_1 : w32.cell? ⟨gb231, 1, none⟩ = some (.int .i64 ((rd_T32 l1 x18_1).f1)) := (blk_cell BK231.out 1).trans rfl; have hcz33_2 : w32.cell? ⟨gb231, 2, none⟩ = some (.int .i64 ((rd_T32 l1 x18_1).f2)) := (blk_cell BK231.out 2).trans rfl; have hcz33_3 : w32.cell? ⟨gb231, 3, none⟩ = some (.int .i64 ((rd_T32 l1 x18_1).f3)) := (blk_cell BK231.out 3).trans rfl; have hfz33_0 := blk_frozen BK231.out 0; have hfz33_1 := blk_frozen BK231.out 1; have hfz33_2 := blk_frozen BK231.out 2; have hfz33_3 := blk_frozen BK231.out 3; obtain ⟨Ao34, co34, eo34⟩ := Kd.R_slice HO237.out; subst eo34; have p238 : 0 ≤ (((rd_T32 l1 x18_1).f0) : Int) := of_decide_eq_true qq3; have q238 : ((rd_T32 l1 x18_1).f0) < (t235.length : Int) := of_decide_eq_true qq3; obtain ⟨ad238, e238, hx238_0⟩ := Kd.at_int (Kd.R_reads' HO237.out).2.2 ((rd_T32 l1 x18_1).f0) p238 q238; cases e238; replace p238 := eq_true p238; replace q238 := eq_true q238; have p239 : 0 ≤ (((rd_T32 l1 x18_1).f1) : Int) := of_decide_eq_true qq3; have q239 : ((rd_T32 l1 x18_1).f1) < (t235.length : Int) := of_decide_eq_true qq3; obtain ⟨ad239, e239, hx239_0⟩ := Kd.at_int (Kd.R_reads' HO237.out).2.2 ((rd_T32 l1 x18_1).f1) p239 q239; obtain rfl : ad238 = ad239 := (by injection e239); replace p239 := eq_true p239; replace q239 := eq_true q239) | ((with_reducible refine gate_builtin (b := .append) (xs := #[.tmp 39, .tmp 41]) rfl ?_); at_builtin; refine Kd.R_append (Kd.int .i64) (w0 := w) w.heap.size rfl (.tmp 39) (.tmp 41) 27 3 (.int .i64 0) 8 rfl Try.underlying27 info3 rfl (by decide) (by omega) (.slice Ao29 x6_1.length co29) x6_1 x18_1 [.int .i64 x18_1] (fun k_ => some k_ ≠ (.slice (some ad238) t235.length co34 : Value).ownBlock) (fun _ => False) rfl rfl ?aP (fun _ hk => hk.elim) ?aF ?aO ?aB ?aS ?aL ?_; (case aP => exact rfl); (case aB => exact (qq4 HB.out GE231.out)); (case aF => exact qq57 HO237.out); (case aO => exact (qq21 HO_6.out)); (case aS => exact (below_size (qq4 HB.out GE231.out))); (case aL => have := LMc26.out; omega); intro v241 w35 ho hb hg hat; rw [← Ny240.out] at ho; have n0_ := Aside0.mk (blk_grown (g := gb231) (o := .cells #[.int .i64 ((rd_T32 l1 x18_1).f0), .int .i64 ((rd_T32 l1 x18_1).f1), .int .i64 ((rd_T32 l1 x18_1).f2), .int .i64 ((rd_T32 l1 x18_1).f3)] 32 (0, 0)) (qq23 BK231.out) hg (Kd.R_ne HO_6.out BK231.out (by decide))); have n1_ := Aside0.mk (Kd.R_over' (qq2 HO234.out) (Kd.R_typed (qq2 HO_6.out)) (by decide) hg); have n2_ := Aside0.mk (Kd.R_after (ok := (fun _ => True)) (qq2 HO237.out) hg hat); have n3_ := Aside0.mk (hb); have n4_ := Aside0.mk (ho); clear BK231; clear HO234; clear HO237; clear HB; clear HO_6; have BK231 := n0_; have HO234 := n1_; have HO237 := n2_; have HB := n3_; have HO242 := n4_; clear n0_ n1_ n2_ n3_ n4_; clear ho hb hg hat)); try go_wp2_with (first | ((with_reducible refine gate_dst (N := 8) rfl ?_); refine box_event ?hg (N := 8) ?hd (cs := #[.int .i64 0, .int .i64 0, .int .i64 0, .int .i64 0]) (t := 32) ?hr ?_; (case hd => rfl); (case hg => rfl); (case hr => exact qq16); intro gb231 hg w27 hbox hb; have n0_ := Aside0.mk (Kd.R_below (qq2 HO_6.out) hb); have n1_ := Aside0.mk (below_step qq1 hb); have n2_ := Aside0.mk (hbox); have n3_ := Aside0.mk ((qq33 : w.heap.size ≤ gb231)); have n4_ := Aside0.mk ((qq33 : w.heap.size ≤ gb231)); clear HO_6; clear HB; have HO_6 := n0_; have HB := n1_; have BK231 := n2_; have GW231 := n3_; have GE231 := n4_; clear n0_ n1_ n2_ n3_ n4_; clear hb hbox hg; have hcz28_0 : w27.cell? ⟨gb231, 0, none⟩ = some (.int .i64 0) := (blk_cell BK231.out 0).trans rfl; have hcz28_1 : w27.cell? ⟨gb231, 1, none⟩ = some (.int .i64 0) := (blk_cell BK231.out 1).trans rfl; have hcz28_2 : w27.cell? ⟨gb231, 2, none⟩ = some (.int .i64 0) := (blk_cell BK231.out 2).trans rfl; have hcz28_3 : w27.cell? ⟨gb231, 3, none⟩ = some (.int .i64 0) := (blk_cell BK231.out 3).trans rfl; have hfz28_0 := blk_frozen BK231.out 0; have hfz28_1 := blk_frozen BK231.out 1; have hfz28_2 := blk_frozen BK231.out 2; have hfz28_3 := blk_frozen BK231.out 3; obtain ⟨Ao29, co29, eo29⟩ := Kd.R_slice HO_6.out; subst eo29) | (go_at_call 27; (with_reducible refine (impl_pick.calls k1 _ _ l1 _ _ x6_1 t232 _ ?side1 ?side2 ?side3 ?side4 A11.out).mono ?_); (case side1 => exact qq66); (case side2 => exact HC1.out); (case side3 => exact qq60); (case side4 => exact qq50 HO_6.out); rintro e w30 ⟨v233, rfl, ho0, hb⟩; have n0_ := Aside0.mk (Kd.R_below qq14 hb); have n1_ := Aside0.mk (Kd.R_lower (Kd.R_newB ho0 (g := gb231) (o := .cells #[.int .i64 ((rd_T32 l1 x18_1).f0), .int .i64 ((rd_T32 l1 x18_1).f1), .int .i64 ((rd_T32 l1 x18_1).f2), .int .i64 ((rd_T32 l1 x18_1).f3)] 32 (0, 0)) qq7) (below_size (qq4 HB.out GE231.out))); have n2_ := Aside0.mk (blk_below (g := gb231) (o := .cells #[.int .i64 ((rd_T32 l1 x18_1).f0), .int .i64 ((rd_T32 l1 x18_1).f1), .int .i64 ((rd_T32 l1 x18_1).f2), .int .i64 ((rd_T32 l1 x18_1).f3)] 32 (0, 0)) qq7 hb); have n3_ := Aside0.mk (below_step (qq4 HB.out GE231.out) hb); clear HO_6; clear BK231; clear HB; have HO_6 := n0_; have HO234 := n1_; have BK231 := n2_; have HB := n3_; clear n0_ n1_ n2_ n3_; (try clear hb); (try clear hb2); (try clear hk); (try clear hi); (try clear ho0); obtain ⟨Ao31, co31, eo31⟩ := Kd.R_slice HO234.out; subst eo31) | (go_at_call 26; (with_reducible refine (impl_leastLinked.calls a0 _ _ t232 t235 _ ?side1 ?side2 A12.out).mono ?_); (case side1 => exact qq12 HO234.out); (case side2 => exact qq50 HO234.out); rintro e w32 ⟨v236, rfl, ho0, hb⟩; have n0_ := Aside0.mk (Kd.R_elder' (qq2 HO_6.out) (Kd.R_base ho0) hb); have n1_ := Aside0.mk (Kd.R_below (qq2 HO234.out) hb); have n2_ := Aside0.mk (Kd.R_lower (Kd.R_new' ho0 (Kd.R_lt (qq2 HO_6.out))) (below_size (qq4 HB.out GE231.out))); have n3_ := Aside0.mk (bbl_ BK231.out hb); have n4_ := Aside0.mk (below_step (qq4 HB.out GE231.out) hb); clear HO_6; clear HO234; clear BK231; clear HB; have HO_6 := n0_; have HO234 := n1_; have HO237 := n2_; have BK231 := n3_; have HB := n4_; clear n0_ n1_ n2_ n3_ n4_; (try clear hb); (try clear hb2); (try clear hk); (try clear hi); (try clear ho0); have hcz33_0 : w32.cell? ⟨gb231, 0, none⟩ = some (.int .i64 ((rd_T32 l1 x18_1).f0)) := (blk_cell BK231.out 0).trans rfl; have hcz33_1 : w32.cell? ⟨gb231, 1, none⟩ = some (.int .i64 ((rd_T32 l1 x18_1).f1)) := (blk_cell BK231.out 1).trans rfl; have hcz33_2 : w32.cell? ⟨gb231, 2, none⟩ = some (.int .i64 ((rd_T32 l1 x18_1).f2)) := (blk_cell BK231.out 2).trans rfl; have hcz33_3 : w32.cell? ⟨gb231, 3, none⟩ = some (.int .i64 ((rd_T32 l1 x18_1).f3)) := (blk_cell BK231.out 3).trans rfl; have hfz33_0 := blk_frozen BK231.out 0; have hfz33_1 := blk_frozen BK231.out 1; have hfz33_2 := blk_frozen BK231.out 2; have hfz33_3 := blk_frozen BK231.out 3; obtain ⟨Ao34, co34, eo34⟩ := Kd.R_slice HO237.out; subst eo34; have p238 : 0 ≤ (((rd_T32 l1 x18_1).f0) : Int) := of_decide_eq_true qq3; have q238 : ((rd_T32 l1 x18_1).f0) < (t235.length : Int) := of_decide_eq_true qq3; obtain ⟨ad238, e238, hx238_0⟩ := Kd.at_int (Kd.R_reads' HO237.out).2.2 ((rd_T32 l1 x18_1).f0) p238 q238; cases e238; replace p238 := eq_true p238; replace q238 := eq_true q238; have p239 : 0 ≤ (((rd_T32 l1 x18_1).f1) : Int) := of_decide_eq_true qq3; have q239 : ((rd_T32 l1 x18_1).f1) < (t235.length : Int) := of_decide_eq_true qq3; obtain ⟨ad239, e239, hx239_0⟩ := Kd.at_int (Kd.R_reads' HO237.out).2.2 ((rd_T32 l1 x18_1).f1) p239 q239; obtain rfl : ad238 = ad239 := (by injection e239); replace p239 := eq_true p239; replace q239 := eq_true q239) | ((with_reducible refine gate_builtin (b := .append) (xs := #[.tmp 39, .tmp 41]) rfl ?_); at_builtin; refine Kd.R_append (Kd.int .i64) (w0 := w) w.heap.size rfl (.tmp 39) (.tmp 41) 27 3 (.int .i64 0) 8 rfl Try.underlying27 info3 rfl (by decide) (by omega) (.slice Ao29 x6_1.length co29) x6_1 x18_1 [.int .i64 x18_1] (fun k_ => some k_ ≠ (.slice (some ad238) t235.length co34 : Value).ownBlock) (fun _ => False) rfl rfl ?aP (fun _ hk => hk.elim) ?aF ?aO ?aB ?aS ?aL ?_; (case aP => exact rfl); (case aB => exact (qq4 HB.out GE231.out)); (case aF => exact qq57 HO237.out); (case aO => exact (qq21 HO_6.out)); (case aS => exact (below_size (qq4 HB.out GE231.out))); (case aL => have := LMc26.out; omega); intro v241 w35 ho hb hg hat; rw [← Ny240.out] at ho; have n0_ := Aside0.mk (blk_grown (g := gb231) (o := .cells #[.int .i64 ((rd_T32 l1 x18_1).f0), .int .i64 ((rd_T32 l1 x18_1).f1), .int .i64 ((rd_T32 l1 x18_1).f2), .int .i64 ((rd_T32 l1 x18_1).f3)] 32 (0, 0)) (qq23 BK231.out) hg (Kd.R_ne HO_6.out BK231.out (by decide))); have n1_ := Aside0.mk (Kd.R_over' (qq2 HO234.out) (Kd.R_typed (qq2 HO_6.out)) (by decide) hg); have n2_ := Aside0.mk (Kd.R_after (ok := (fun _ => True)) (qq2 HO237.out) hg hat); have n3_ := Aside0.mk (hb); have n4_ := Aside0.mk (ho); clear BK231; clear HO234; clear HO237; clear HB; clear HO_6; have BK231 := n0_; have HO234 := n1_; have HO237 := n2_; have HB := n3_; have HO242 := n4_; clear n0_ n1_ n2_ n3_ n4_; clear ho hb hg hat)))
                          go_roundg k1
                          case measure => have := HK1.out; omega
                          case rel => exact ⟨(y240), (wrap64 (x18_1 + 1)), qq13, H', ⟨by have := HK1.out; omega⟩, ⟨qq17 HO242.out⟩, ⟨qq4 HB.out GE231.out⟩⟩
                        · rw [if_neg c26] at H
                          exact absurd H (by simp)
                    · rw [if_neg c16] at H
                      exact absurd H (by simp)
                  · rw [if_neg c15] at H
                    exact absurd H (by simp)
                · rw [if_neg c14] at H
                  exact absurd H (by simp)
              · rw [if_neg c13] at H
                exact absurd H (by simp)
            · rw [if_neg c10] at H
              exact absurd H (by simp)
          · rw [if_neg c9] at H
            exact absurd H (by simp)
        · rw [if_neg c8] at H
          have c8b0 : decide (x18_1 < (l1.length : Int)) = false := decide_eq_false c8
          clear c8
          simp only [Option.some.injEq, Prod.mk.injEq] at H
          obtain ⟨rfl, rfl⟩ := H
          go_wp2
          repeat (go_quiet (fail); try go_wp2)
          go_ret2
          exact ⟨_, qq11, qq2 HO_6.out, qq1⟩
  · replace c4 := Bool.eq_false_iff.mpr c4
    subst c4
    have H1 : (some ((([] : List Int)), false)) = some (r1, r2) := by rw [if_neg (show ¬ (false = true) by decide)] at H; exact H
    clear H
    have H := H1
    clear H1
    obtain ⟨y224, hy224⟩ : ∃ y_ : List Int, y_ = (([] : List Int)) := ⟨_, rfl⟩
    replace H : (some (y224, false)) = some (r1, r2) := by first | (rw [hy224]; with_reducible exact H) | (have H2_ := (Option.bind_some _ _).symm.trans H; rw [hy224]; with_reducible exact H2_) | (have H2_ := (Option.bind_some _ _).symm.trans H; with_reducible exact H2_) | with_reducible exact H | (rw [hy224]; exact H) | exact H
    have Ny224 := Aside0.mk hy224
    clear hy224
    simp only [Option.some.injEq, Prod.mk.injEq] at H
    obtain ⟨rfl, rfl⟩ := H
    go_enter Try.func10, Try.ntmps10
    go_wp2_with (first | (go_at_call 13; (with_reducible refine (impl_NetWhole.calls k a0 _ _ l1 false _ ?side1 ?side2 A3.out).mono ?_); (case side1 => exact qq15 HR1.out); (case side2 => exact HC1.out); rintro e w36 ⟨rfl, hb⟩; have n0_ := Aside0.mk (below_step qq1 hb); clear HB; have HB := n0_; clear n0_; (try clear hb); (try clear hb2); (try clear hk); (try clear hi)) | ((with_reducible refine gate_dst (N := 14) rfl ?_); refine Kd.R_lit (Kd.int .i64) _ 3 ?hg (N := 14) ?hd (xs := ([] : List Int)) (inner := []) (ok := fun _ => True) (okp := fun _ => True) ?hr ?hp (fun _ hk => hk) trivial (Below.refl _ _) (Nat.le_refl _) (by simp) ?_; (case hd => rfl); (case hg => rfl); (case hr => exact qq16); (case hp => exact (Reps.none _ _)); intro v225 w37 ho38 hb hg_ hnew_; clear hg_ hnew_; (first | rw [← Ny224.out] at ho38 | (simp only [Int.reduceToNat] at ho38; rw [← Ny224.out] at ho38)); have n0_ := Aside0.mk (Kd.R_lower ho38 (below_size qq1)); have n1_ := Aside0.mk (below_step qq1 hb); clear HB; have HO226 := n0_; have HB := n1_; clear n0_ n1_; clear hb ho38))
    repeat (go_quiet (first | (go_at_call 13; (with_reducible refine (impl_NetWhole.calls k a0 _ _ l1 false _ ?side1 ?side2 A3.out).mono ?_); (case side1 => exact qq15 HR1.out); (case side2 => exact HC1.out); rintro e w36 ⟨rfl, hb⟩; have n0_ := Aside0.mk (below_step qq1 hb); clear HB; have HB := n0_; clear n0_; (try clear hb); (try clear hb2); (try clear hk); (try clear hi)) | ((with_reducible refine gate_dst (N := 14) rfl ?_); refine Kd.R_lit (Kd.int .i64) _ 3 ?hg (N := 14) ?hd (xs := ([] : List Int)) (inner := []) (ok := fun _ => True) (okp := fun _ => True) ?hr ?hp (fun _ hk => hk) trivial (Below.refl _ _) (Nat.le_refl _) (by simp) ?_; (case hd => rfl); (case hg => rfl); (case hr => exact qq16); (case hp => exact (Reps.none _ _)); intro v225 w37 ho38 hb hg_ hnew_; clear hg_ hnew_; (first | rw [← Ny224.out] at ho38 | (simp only [Int.reduceToNat] at ho38; rw [← Ny224.out] at ho38)); have n0_ := Aside0.mk (Kd.R_lower ho38 (below_size qq1)); have n1_ := Aside0.mk (below_step qq1 hb); clear HB; have HO226 := n0_; have HB := n1_; clear n0_ n1_; clear hb ho38)); try go_wp2_with (first | (go_at_call 13; (with_reducible refine (impl_NetWhole.calls k a0 _ _ l1 false _ ?side1 ?side2 A3.out).mono ?_); (case side1 => exact qq15 HR1.out); (case side2 => exact HC1.out); rintro e w36 ⟨rfl, hb⟩; have n0_ := Aside0.mk (below_step qq1 hb); clear HB; have HB := n0_; clear n0_; (try clear hb); (try clear hb2); (try clear hk); (try clear hi)) | ((with_reducible refine gate_dst (N := 14) rfl ?_); refine Kd.R_lit (Kd.int .i64) _ 3 ?hg (N := 14) ?hd (xs := ([] : List Int)) (inner := []) (ok := fun _ => True) (okp := fun _ => True) ?hr ?hp (fun _ hk => hk) trivial (Below.refl _ _) (Nat.le_refl _) (by simp) ?_; (case hd => rfl); (case hg => rfl); (case hr => exact qq16); (case hp => exact (Reps.none _ _)); intro v225 w37 ho38 hb hg_ hnew_; clear hg_ hnew_; (first | rw [← Ny224.out] at ho38 | (simp only [Int.reduceToNat] at ho38; rw [← Ny224.out] at ho38)); have n0_ := Aside0.mk (Kd.R_lower ho38 (below_size qq1)); have n1_ := Aside0.mk (below_step qq1 hb); clear HB; have HO226 := n0_; have HB := n1_; clear n0_ n1_; clear hb ho38)))
    go_ret2
    exact ⟨_, qq11, qq2 HO226.out, qq1⟩

end Go.Proofs.Ytmcfhmflncghiaa.Q
