/- The linked list of corners that outlineOf makes. -/
import Derived.Test.YtgdhgncdpmalcaaDrawn
import Derived.Test.YtgdhgncdpmalcaaPolyCv
namespace Go.Proofs.Ytgdhgncdpmalcaa.Ring
open Go.RowKit Go.Shelf Go.Proofs.Ytgdhgncdpmalcaa.Q Go.Proofs.Ytgdhgncdpmalcaa.Drawn Go.Proofs.YtgdhgncdpmalcaaW.PrintWords Go.Proofs.YtgdhgncdpmalcaaW.PrintLast Go.Proofs.YtgdhgncdpmalcaaW.PrintMore
set_option linter.unusedVariables false
set_option linter.unusedSimpArgs false
attribute [local go_sem] Oper.semAt_some

theorem cvB_len {l : List Pt} (h : Pure.cvB l = true) : 3 ≤ l.length ∧ l.length ≤ 12 := (Pure.cvB_iff.1 h).1
/-- A linked list of corners of l, as a value of an outline. -/
def LinkedV (w : World) (l : List Pt) (bs : Nat → Nat) (w' : World) : Prop := Ring w' w'.heap.size bs l ∧ (∀ j, j < l.length → w.heap.size ≤ bs j) ∧ Below w.heap.size w w'
def NoRing (w : World) (e : Ending) (w' : World) : Prop := e = .returned (.tuple #[.agg #[.pointer none, .int .i64 0], .bool false]) ∧ Below w.heap.size w w'
def IsRing (w : World) (l : List Pt) (e : Ending) (w' : World) : Prop := ∃ bs, e = .returned (.tuple #[.agg #[.pointer (some ⟨bs 0, 0, none⟩), .int .i64 l.length], .bool true]) ∧ LinkedV w l bs w'
theorem outline_is (A0 : Option Addr) (c0 : Nat) (l0 : List Pt) (w : World) (hr0 : Kd.C k32 w A0 l0.length l0) (hc0 : l0.length ≤ c0) (h : Pure.cvB l0 = true) :
    Calls Try.prog 43 #[.slice A0 l0.length c0] w (IsRing w l0) :=
  (outline_yes 21 A0 c0 l0 w hr0 hc0 ((Pure.cornersValid_eq 21 l0 (by decide)).trans (by rw [h])) (cvB_len h).1 (cvB_len h).2).mono fun e w' ⟨bs, he, hr, hl, hb⟩ => ⟨bs, he, hr, hl, hb⟩
theorem outline_isnt (A0 : Option Addr) (c0 : Nat) (l0 : List Pt) (w : World) (hr0 : Kd.C k32 w A0 l0.length l0) (hc0 : l0.length ≤ c0) (h : Pure.cvB l0 = false) :
    Calls Try.prog 43 #[.slice A0 l0.length c0] w (NoRing w) :=
  outline_no 21 A0 c0 l0 w hr0 hc0 ((Pure.cornersValid_eq 21 l0 (by decide)).trans (by rw [h]))
theorem at_new {w w1 : World} {cs : Array Value} {T : TypeId} (hb : Below (w.heap.size + 1) (w.alloc (.cells cs T)) w1) (o : Nat) : w1.cell? ⟨w.heap.size, o, none⟩ = cs[o]? ∧ w1.frozen? ⟨w.heap.size, o, none⟩ = (w.alloc (.cells cs T)).frozen? ⟨w.heap.size, o, none⟩ :=
  ⟨(hb.cell (p := ⟨w.heap.size, o, none⟩) (by dsimp only; omega)).trans (World.cell?_alloc_at _ _ _ _ rfl), hb.frozen (p := ⟨w.heap.size, o, none⟩) (by dsimp only; omega)⟩

end Go.Proofs.Ytgdhgncdpmalcaa.Ring
