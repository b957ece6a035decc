/-
  No cell of these rows narrows 'for every input' (looked for: loops, veiled, ifaces, maps, wideKeys, modest, calm, conditions, laid).
  DERIVED. THE GIVEN ROWS OF THIS SEAT. 11 by the template 'for every input the law returns true; each argument reads behind the call as it read before'; 0 by the template 'total and deterministic' (their statements: YteoajklibkilmaaTotals.lean).
  GIVEN WITH THE SEED: the statements are not yours to turn. If you find one false, say at which input.
  Laid BY PROGRAM, IN A SANDBOX (cutbox-rows.mjs): the forced cells as the released guide's own fill.sh prints them over the translation 37b691bc889ff518… (all of the seat's roots in one cut). By AI agents, Wed Nov 11 2026. No macro, syntax, notation, axiom, sorry.
-/
import Derived.Test.YteoajklibkilmaaChecked
import GoSem.Claim
import GoSem.ClaimJoined
import GoSem.ClaimMapViews
import Derived.JoinedTies
import Derived.KernelRfl
namespace Go.Proofs.Yteoajklibkilmaa
/- THE CELL 'sum', in the pinned program and in every row, IS THE sha256 OF THE DUMP (.gsa) THAT YteoajklibkilmaaProg.lean LOADS. Nothing in Lean hashes anything: it is a label: what it is worth is what the hold of that sum in a sandbox is worth. -/
noncomputable def Try.pinned : Pinned := { name := "yteoajklibkilmaa", sum := "37b691bc889ff5187b2fbf16cd7514ce110fa89dc05506c8f4b6d35ea37e0a09", checked := Try.checked }
namespace Rows
def none {H : Type} : Left H := { results := [], args := [] }

/-- 'laws.FnExactPointStep': WHATEVER THE INPUT: true; the input reads as it did. -/
def fnExactPointStepSpec : ChangeSpec := { name := "fnExactPointStep", fn := fun _ => fun
  | [d1, d2] => { results := [.lit (.bool true)], args := [d1, d2] }
  | _ => none }
def fnExactPointStepRow : OpenClaim := { program := "yteoajklibkilmaa", sum := "37b691bc889ff5187b2fbf16cd7514ce110fa89dc05506c8f4b6d35ea37e0a09", func := "loop.example/levellingnet/laws.FnExactPointStep", spec := "fnExactPointStep", apart := false }
def FnExactPointStepSaid : Prop := fnExactPointStepRow.holds Try.pinned (OpenSpec.ofChange fnExactPointStepSpec)

/-- ITS FALSE NEIGHBOUR: 'it returns false'. Refute it at one input. -/
def fnExactPointStepWrong : ChangeSpec := { name := "fnExactPointStep", fn := fun _ => fun
  | [d1, d2] => { results := [.lit (.bool false)], args := [d1, d2] }
  | _ => none }
def FnExactPointStepWrongFalsely : Prop := fnExactPointStepRow.holds Try.pinned (OpenSpec.ofChange fnExactPointStepWrong)

/-- 'laws.FnExactPointFar': WHATEVER THE INPUT: true; the input reads as it did. -/
def fnExactPointFarSpec : ChangeSpec := { name := "fnExactPointFar", fn := fun _ => fun
  | [d1, d2] => { results := [.lit (.bool true)], args := [d1, d2] }
  | _ => none }
def fnExactPointFarRow : OpenClaim := { program := "yteoajklibkilmaa", sum := "37b691bc889ff5187b2fbf16cd7514ce110fa89dc05506c8f4b6d35ea37e0a09", func := "loop.example/levellingnet/laws.FnExactPointFar", spec := "fnExactPointFar", apart := false }
def FnExactPointFarSaid : Prop := fnExactPointFarRow.holds Try.pinned (OpenSpec.ofChange fnExactPointFarSpec)

/-- ITS FALSE NEIGHBOUR: 'it returns false'. Refute it at one input. -/
def fnExactPointFarWrong : ChangeSpec := { name := "fnExactPointFar", fn := fun _ => fun
  | [d1, d2] => { results := [.lit (.bool false)], args := [d1, d2] }
  | _ => none }
def FnExactPointFarWrongFalsely : Prop := fnExactPointFarRow.holds Try.pinned (OpenSpec.ofChange fnExactPointFarWrong)

/-- 'laws.FnExactPointSide': WHATEVER THE INPUT: true; the input reads as it did. -/
def fnExactPointSideSpec : ChangeSpec := { name := "fnExactPointSide", fn := fun _ => fun
  | [d1, d2, d3] => { results := [.lit (.bool true)], args := [d1, d2, d3] }
  | _ => none }
def fnExactPointSideRow : OpenClaim := { program := "yteoajklibkilmaa", sum := "37b691bc889ff5187b2fbf16cd7514ce110fa89dc05506c8f4b6d35ea37e0a09", func := "loop.example/levellingnet/laws.FnExactPointSide", spec := "fnExactPointSide", apart := false }
def FnExactPointSideSaid : Prop := fnExactPointSideRow.holds Try.pinned (OpenSpec.ofChange fnExactPointSideSpec)

/-- ITS FALSE NEIGHBOUR: 'it returns false'. Refute it at one input. -/
def fnExactPointSideWrong : ChangeSpec := { name := "fnExactPointSide", fn := fun _ => fun
  | [d1, d2, d3] => { results := [.lit (.bool false)], args := [d1, d2, d3] }
  | _ => none }
def FnExactPointSideWrongFalsely : Prop := fnExactPointSideRow.holds Try.pinned (OpenSpec.ofChange fnExactPointSideWrong)

/-- 'laws.FnExactPointOn': WHATEVER THE INPUT: true; the input reads as it did. -/
def fnExactPointOnSpec : ChangeSpec := { name := "fnExactPointOn", fn := fun _ => fun
  | [d1, d2, d3] => { results := [.lit (.bool true)], args := [d1, d2, d3] }
  | _ => none }
def fnExactPointOnRow : OpenClaim := { program := "yteoajklibkilmaa", sum := "37b691bc889ff5187b2fbf16cd7514ce110fa89dc05506c8f4b6d35ea37e0a09", func := "loop.example/levellingnet/laws.FnExactPointOn", spec := "fnExactPointOn", apart := false }
def FnExactPointOnSaid : Prop := fnExactPointOnRow.holds Try.pinned (OpenSpec.ofChange fnExactPointOnSpec)

/-- ITS FALSE NEIGHBOUR: 'it returns false'. Refute it at one input. -/
def fnExactPointOnWrong : ChangeSpec := { name := "fnExactPointOn", fn := fun _ => fun
  | [d1, d2, d3] => { results := [.lit (.bool false)], args := [d1, d2, d3] }
  | _ => none }
def FnExactPointOnWrongFalsely : Prop := fnExactPointOnRow.holds Try.pinned (OpenSpec.ofChange fnExactPointOnWrong)

/-- 'laws.FnExactPointGaps': WHATEVER THE INPUT: true; the input reads as it did. -/
def fnExactPointGapsSpec : ChangeSpec := { name := "fnExactPointGaps", fn := fun _ => fun
  | [d1, d2] => { results := [.lit (.bool true)], args := [d1, d2] }
  | _ => none }
def fnExactPointGapsRow : OpenClaim := { program := "yteoajklibkilmaa", sum := "37b691bc889ff5187b2fbf16cd7514ce110fa89dc05506c8f4b6d35ea37e0a09", func := "loop.example/levellingnet/laws.FnExactPointGaps", spec := "fnExactPointGaps", apart := false }
def FnExactPointGapsSaid : Prop := fnExactPointGapsRow.holds Try.pinned (OpenSpec.ofChange fnExactPointGapsSpec)

/-- ITS FALSE NEIGHBOUR: 'it returns false'. Refute it at one input. -/
def fnExactPointGapsWrong : ChangeSpec := { name := "fnExactPointGaps", fn := fun _ => fun
  | [d1, d2] => { results := [.lit (.bool false)], args := [d1, d2] }
  | _ => none }
def FnExactPointGapsWrongFalsely : Prop := fnExactPointGapsRow.holds Try.pinned (OpenSpec.ofChange fnExactPointGapsWrong)

/-- 'laws.FnPointFar': WHATEVER THE INPUT: true; the input reads as it did. -/
def fnPointFarSpec : ChangeSpec := { name := "fnPointFar", fn := fun _ => fun
  | [d1, d2] => { results := [.lit (.bool true)], args := [d1, d2] }
  | _ => none }
def fnPointFarRow : OpenClaim := { program := "yteoajklibkilmaa", sum := "37b691bc889ff5187b2fbf16cd7514ce110fa89dc05506c8f4b6d35ea37e0a09", func := "loop.example/levellingnet/laws.FnPointFar", spec := "fnPointFar", apart := false }
def FnPointFarSaid : Prop := fnPointFarRow.holds Try.pinned (OpenSpec.ofChange fnPointFarSpec)

/-- ITS FALSE NEIGHBOUR: 'it returns false'. Refute it at one input. -/
def fnPointFarWrong : ChangeSpec := { name := "fnPointFar", fn := fun _ => fun
  | [d1, d2] => { results := [.lit (.bool false)], args := [d1, d2] }
  | _ => none }
def FnPointFarWrongFalsely : Prop := fnPointFarRow.holds Try.pinned (OpenSpec.ofChange fnPointFarWrong)

/-- 'laws.FnPointSide': WHATEVER THE INPUT: true; the input reads as it did. -/
def fnPointSideSpec : ChangeSpec := { name := "fnPointSide", fn := fun _ => fun
  | [d] => { results := [.lit (.bool true)], args := [d] }
  | _ => none }
def fnPointSideRow : OpenClaim := { program := "yteoajklibkilmaa", sum := "37b691bc889ff5187b2fbf16cd7514ce110fa89dc05506c8f4b6d35ea37e0a09", func := "loop.example/levellingnet/laws.FnPointSide", spec := "fnPointSide", apart := false }
def FnPointSideSaid : Prop := fnPointSideRow.holds Try.pinned (OpenSpec.ofChange fnPointSideSpec)

/-- ITS FALSE NEIGHBOUR: 'it returns false'. Refute it at one input. -/
def fnPointSideWrong : ChangeSpec := { name := "fnPointSide", fn := fun _ => fun
  | [d] => { results := [.lit (.bool false)], args := [d] }
  | _ => none }
def FnPointSideWrongFalsely : Prop := fnPointSideRow.holds Try.pinned (OpenSpec.ofChange fnPointSideWrong)

/-- 'laws.FnPointStep': WHATEVER THE INPUT: true; the input reads as it did. -/
def fnPointStepSpec : ChangeSpec := { name := "fnPointStep", fn := fun _ => fun
  | [d] => { results := [.lit (.bool true)], args := [d] }
  | _ => none }
def fnPointStepRow : OpenClaim := { program := "yteoajklibkilmaa", sum := "37b691bc889ff5187b2fbf16cd7514ce110fa89dc05506c8f4b6d35ea37e0a09", func := "loop.example/levellingnet/laws.FnPointStep", spec := "fnPointStep", apart := false }
def FnPointStepSaid : Prop := fnPointStepRow.holds Try.pinned (OpenSpec.ofChange fnPointStepSpec)

/-- ITS FALSE NEIGHBOUR: 'it returns false'. Refute it at one input. -/
def fnPointStepWrong : ChangeSpec := { name := "fnPointStep", fn := fun _ => fun
  | [d] => { results := [.lit (.bool false)], args := [d] }
  | _ => none }
def FnPointStepWrongFalsely : Prop := fnPointStepRow.holds Try.pinned (OpenSpec.ofChange fnPointStepWrong)

/-- 'laws.FnPointOn': WHATEVER THE INPUT: true; the input reads as it did. -/
def fnPointOnSpec : ChangeSpec := { name := "fnPointOn", fn := fun _ => fun
  | [d] => { results := [.lit (.bool true)], args := [d] }
  | _ => none }
def fnPointOnRow : OpenClaim := { program := "yteoajklibkilmaa", sum := "37b691bc889ff5187b2fbf16cd7514ce110fa89dc05506c8f4b6d35ea37e0a09", func := "loop.example/levellingnet/laws.FnPointOn", spec := "fnPointOn", apart := false }
def FnPointOnSaid : Prop := fnPointOnRow.holds Try.pinned (OpenSpec.ofChange fnPointOnSpec)

/-- ITS FALSE NEIGHBOUR: 'it returns false'. Refute it at one input. -/
def fnPointOnWrong : ChangeSpec := { name := "fnPointOn", fn := fun _ => fun
  | [d] => { results := [.lit (.bool false)], args := [d] }
  | _ => none }
def FnPointOnWrongFalsely : Prop := fnPointOnRow.holds Try.pinned (OpenSpec.ofChange fnPointOnWrong)

/-- 'laws.FnPointGaps': WHATEVER THE INPUT: true; the input reads as it did. -/
def fnPointGapsSpec : ChangeSpec := { name := "fnPointGaps", fn := fun _ => fun
  | [d] => { results := [.lit (.bool true)], args := [d] }
  | _ => none }
def fnPointGapsRow : OpenClaim := { program := "yteoajklibkilmaa", sum := "37b691bc889ff5187b2fbf16cd7514ce110fa89dc05506c8f4b6d35ea37e0a09", func := "loop.example/levellingnet/laws.FnPointGaps", spec := "fnPointGaps", apart := false }
def FnPointGapsSaid : Prop := fnPointGapsRow.holds Try.pinned (OpenSpec.ofChange fnPointGapsSpec)

/-- ITS FALSE NEIGHBOUR: 'it returns false'. Refute it at one input. -/
def fnPointGapsWrong : ChangeSpec := { name := "fnPointGaps", fn := fun _ => fun
  | [d] => { results := [.lit (.bool false)], args := [d] }
  | _ => none }
def FnPointGapsWrongFalsely : Prop := fnPointGapsRow.holds Try.pinned (OpenSpec.ofChange fnPointGapsWrong)

/-- 'laws.FnBearingSide': WHATEVER THE INPUT: true; the input reads as it did. -/
def fnBearingSideSpec : ChangeSpec := { name := "fnBearingSide", fn := fun _ => fun
  | [d] => { results := [.lit (.bool true)], args := [d] }
  | _ => none }
def fnBearingSideRow : OpenClaim := { program := "yteoajklibkilmaa", sum := "37b691bc889ff5187b2fbf16cd7514ce110fa89dc05506c8f4b6d35ea37e0a09", func := "loop.example/levellingnet/laws.FnBearingSide", spec := "fnBearingSide", unfollowed := true, recurses := true, apart := false }
def FnBearingSideSaid : Prop := fnBearingSideRow.holds Try.pinned (OpenSpec.ofChange fnBearingSideSpec)

/-- ITS FALSE NEIGHBOUR: 'it returns false'. Refute it at one input. -/
def fnBearingSideWrong : ChangeSpec := { name := "fnBearingSide", fn := fun _ => fun
  | [d] => { results := [.lit (.bool false)], args := [d] }
  | _ => none }
def FnBearingSideWrongFalsely : Prop := fnBearingSideRow.holds Try.pinned (OpenSpec.ofChange fnBearingSideWrong)

/- THE SECOND FORM. 'bulk': how many values and letters a reading holds, each counted each time it is reached (what is shared counts as often as it is met; a slice's spare places count too). A statement '..UptoSaid' is the law's where the arguments, and the package variables that the reading takes, are together of bulk at most 1048576: NARROWER than '..Said'. Prove '..Said' where nothing that the law and all that it calls make is longer than what came in: it says more and counts as full. Else prove '..UptoSaid'. A law counts once. -/
mutual
def uptoBulk {H : Type} : DataW H → Nat
  | .lit (.string bytes) => bytes.length + 1
  | .lit _ => 1
  | .nil => 1
  | .ptr d => uptoBulk d + 1
  | .slice elems spare => uptoBulkAll elems + uptoBulkAll spare + 1
  | .agg parts => uptoBulkAll parts + 1
  | .iface _ d => uptoBulk d + 1
  | .map entries => uptoBulkEntries entries + 1
  | .held _ => 1
def uptoBulkAll {H : Type} : List (DataW H) → Nat
  | [] => 0
  | d :: r => uptoBulk d + uptoBulkAll r
def uptoBulkEntries {H : Type} : List (Lit × DataW H) → Nat
  | [] => 0
  | x :: r => uptoBulkEntry x + uptoBulkEntries r
def uptoBulkEntry {H : Type} : Lit × DataW H → Nat
  | (.string bytes, d) => bytes.length + uptoBulk d + 1
  | (_, d) => uptoBulk d + 1
 end
def uptoSmall : (H : Type) → List (DataW H) → Bool := fun _ ds => decide (uptoBulkAll ds ≤ 1048576)
def OpenSpec.upto (s : _root_.Go.ChangeSpec) : _root_.Go.OpenSpec := { _root_.Go.OpenSpec.ofChange s with cond := some uptoSmall }

/-- 'laws.FnExactPointStep', WHERE WHAT IT READS IS OF BULK AT MOST 1048576: true; the input reads as it did. -/
def fnExactPointStepUptoRow : OpenClaim := { program := "yteoajklibkilmaa", sum := "37b691bc889ff5187b2fbf16cd7514ce110fa89dc05506c8f4b6d35ea37e0a09", func := "loop.example/levellingnet/laws.FnExactPointStep", spec := "fnExactPointStep", apart := false, narrowed := true }
def FnExactPointStepUptoSaid : Prop := fnExactPointStepUptoRow.holds Try.pinned (OpenSpec.upto fnExactPointStepSpec)

/-- 'laws.FnExactPointFar', WHERE WHAT IT READS IS OF BULK AT MOST 1048576: true; the input reads as it did. -/
def fnExactPointFarUptoRow : OpenClaim := { program := "yteoajklibkilmaa", sum := "37b691bc889ff5187b2fbf16cd7514ce110fa89dc05506c8f4b6d35ea37e0a09", func := "loop.example/levellingnet/laws.FnExactPointFar", spec := "fnExactPointFar", apart := false, narrowed := true }
def FnExactPointFarUptoSaid : Prop := fnExactPointFarUptoRow.holds Try.pinned (OpenSpec.upto fnExactPointFarSpec)

/-- 'laws.FnExactPointSide', WHERE WHAT IT READS IS OF BULK AT MOST 1048576: true; the input reads as it did. -/
def fnExactPointSideUptoRow : OpenClaim := { program := "yteoajklibkilmaa", sum := "37b691bc889ff5187b2fbf16cd7514ce110fa89dc05506c8f4b6d35ea37e0a09", func := "loop.example/levellingnet/laws.FnExactPointSide", spec := "fnExactPointSide", apart := false, narrowed := true }
def FnExactPointSideUptoSaid : Prop := fnExactPointSideUptoRow.holds Try.pinned (OpenSpec.upto fnExactPointSideSpec)

/-- 'laws.FnExactPointOn', WHERE WHAT IT READS IS OF BULK AT MOST 1048576: true; the input reads as it did. -/
def fnExactPointOnUptoRow : OpenClaim := { program := "yteoajklibkilmaa", sum := "37b691bc889ff5187b2fbf16cd7514ce110fa89dc05506c8f4b6d35ea37e0a09", func := "loop.example/levellingnet/laws.FnExactPointOn", spec := "fnExactPointOn", apart := false, narrowed := true }
def FnExactPointOnUptoSaid : Prop := fnExactPointOnUptoRow.holds Try.pinned (OpenSpec.upto fnExactPointOnSpec)

/-- 'laws.FnExactPointGaps', WHERE WHAT IT READS IS OF BULK AT MOST 1048576: true; the input reads as it did. -/
def fnExactPointGapsUptoRow : OpenClaim := { program := "yteoajklibkilmaa", sum := "37b691bc889ff5187b2fbf16cd7514ce110fa89dc05506c8f4b6d35ea37e0a09", func := "loop.example/levellingnet/laws.FnExactPointGaps", spec := "fnExactPointGaps", apart := false, narrowed := true }
def FnExactPointGapsUptoSaid : Prop := fnExactPointGapsUptoRow.holds Try.pinned (OpenSpec.upto fnExactPointGapsSpec)

/-- 'laws.FnPointFar', WHERE WHAT IT READS IS OF BULK AT MOST 1048576: true; the input reads as it did. -/
def fnPointFarUptoRow : OpenClaim := { program := "yteoajklibkilmaa", sum := "37b691bc889ff5187b2fbf16cd7514ce110fa89dc05506c8f4b6d35ea37e0a09", func := "loop.example/levellingnet/laws.FnPointFar", spec := "fnPointFar", apart := false, narrowed := true }
def FnPointFarUptoSaid : Prop := fnPointFarUptoRow.holds Try.pinned (OpenSpec.upto fnPointFarSpec)

/-- 'laws.FnPointSide', WHERE WHAT IT READS IS OF BULK AT MOST 1048576: true; the input reads as it did. -/
def fnPointSideUptoRow : OpenClaim := { program := "yteoajklibkilmaa", sum := "37b691bc889ff5187b2fbf16cd7514ce110fa89dc05506c8f4b6d35ea37e0a09", func := "loop.example/levellingnet/laws.FnPointSide", spec := "fnPointSide", apart := false, narrowed := true }
def FnPointSideUptoSaid : Prop := fnPointSideUptoRow.holds Try.pinned (OpenSpec.upto fnPointSideSpec)

/-- 'laws.FnPointStep', WHERE WHAT IT READS IS OF BULK AT MOST 1048576: true; the input reads as it did. -/
def fnPointStepUptoRow : OpenClaim := { program := "yteoajklibkilmaa", sum := "37b691bc889ff5187b2fbf16cd7514ce110fa89dc05506c8f4b6d35ea37e0a09", func := "loop.example/levellingnet/laws.FnPointStep", spec := "fnPointStep", apart := false, narrowed := true }
def FnPointStepUptoSaid : Prop := fnPointStepUptoRow.holds Try.pinned (OpenSpec.upto fnPointStepSpec)

/-- 'laws.FnPointOn', WHERE WHAT IT READS IS OF BULK AT MOST 1048576: true; the input reads as it did. -/
def fnPointOnUptoRow : OpenClaim := { program := "yteoajklibkilmaa", sum := "37b691bc889ff5187b2fbf16cd7514ce110fa89dc05506c8f4b6d35ea37e0a09", func := "loop.example/levellingnet/laws.FnPointOn", spec := "fnPointOn", apart := false, narrowed := true }
def FnPointOnUptoSaid : Prop := fnPointOnUptoRow.holds Try.pinned (OpenSpec.upto fnPointOnSpec)

/-- 'laws.FnPointGaps', WHERE WHAT IT READS IS OF BULK AT MOST 1048576: true; the input reads as it did. -/
def fnPointGapsUptoRow : OpenClaim := { program := "yteoajklibkilmaa", sum := "37b691bc889ff5187b2fbf16cd7514ce110fa89dc05506c8f4b6d35ea37e0a09", func := "loop.example/levellingnet/laws.FnPointGaps", spec := "fnPointGaps", apart := false, narrowed := true }
def FnPointGapsUptoSaid : Prop := fnPointGapsUptoRow.holds Try.pinned (OpenSpec.upto fnPointGapsSpec)

/-- 'laws.FnBearingSide', WHERE WHAT IT READS IS OF BULK AT MOST 1048576: true; the input reads as it did. -/
def fnBearingSideUptoRow : OpenClaim := { program := "yteoajklibkilmaa", sum := "37b691bc889ff5187b2fbf16cd7514ce110fa89dc05506c8f4b6d35ea37e0a09", func := "loop.example/levellingnet/laws.FnBearingSide", spec := "fnBearingSide", unfollowed := true, recurses := true, apart := false, narrowed := true }
def FnBearingSideUptoSaid : Prop := fnBearingSideUptoRow.holds Try.pinned (OpenSpec.upto fnBearingSideSpec)

end Rows
end Go.Proofs.Yteoajklibkilmaa
