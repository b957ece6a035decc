/-
  No cell of these rows narrows 'for every input' (looked for: loops, veiled, ifaces, maps, wideKeys, modest, calm, conditions, laid).
  DERIVED. THE GIVEN ROWS OF THIS SEAT. 4 by the template 'for every input the law returns true; each argument reads behind the call as it read before'; 0 by the template 'total and deterministic' (their statements: YtmcfhmflncghiaaTotals.lean).
  GIVEN WITH THE SEED: the statements are not yours to turn. If you find one false, say at which input.
  Laid BY PROGRAM, IN A SANDBOX (cutbox-rows.mjs): the forced cells as the released guide's own fill.sh prints them over the translation 5e37934c23daa449… (all of the seat's roots in one cut). By AI agents, Wed Nov 11 2026. No macro, syntax, notation, axiom, sorry.
-/
import Derived.Test.YtmcfhmflncghiaaChecked
import GoSem.Claim
import GoSem.ClaimJoined
import GoSem.ClaimMapViews
import Derived.JoinedTies
import Derived.KernelRfl
namespace Go.Proofs.Ytmcfhmflncghiaa
/- THE CELL 'sum', in the pinned program and in every row, IS THE sha256 OF THE DUMP (.gsa) THAT YtmcfhmflncghiaaProg.lean LOADS. Nothing in Lean hashes anything: it is a label: what it is worth is what the hold of that sum in a sandbox is worth. -/
noncomputable def Try.pinned : Pinned := { name := "ytmcfhmflncghiaa", sum := "5e37934c23daa4497cc5b71af8658b0588b3ac47a8c8de1a43bb5c4dce9682bd", checked := Try.checked }
namespace Rows
def none {H : Type} : Left H := { results := [], args := [] }

/-- 'laws.FnLoopCloses': WHATEVER THE INPUT: true; the input reads as it did. -/
def fnLoopClosesSpec : ChangeSpec := { name := "fnLoopCloses", fn := fun _ => fun
  | [d1, d2] => { results := [.lit (.bool true)], args := [d1, d2] }
  | _ => none }
def fnLoopClosesRow : OpenClaim := { program := "ytmcfhmflncghiaa", sum := "5e37934c23daa4497cc5b71af8658b0588b3ac47a8c8de1a43bb5c4dce9682bd", func := "loop.example/levellingnet/laws.FnLoopCloses", spec := "fnLoopCloses", recurses := true, apart := false }
def FnLoopClosesSaid : Prop := fnLoopClosesRow.holds Try.pinned (OpenSpec.ofChange fnLoopClosesSpec)

/-- ITS FALSE NEIGHBOUR: 'it returns false'. Refute it at one input. -/
def fnLoopClosesWrong : ChangeSpec := { name := "fnLoopCloses", fn := fun _ => fun
  | [d1, d2] => { results := [.lit (.bool false)], args := [d1, d2] }
  | _ => none }
def FnLoopClosesWrongFalsely : Prop := fnLoopClosesRow.holds Try.pinned (OpenSpec.ofChange fnLoopClosesWrong)

/-- 'laws.FnLoopErrors': WHATEVER THE INPUT: true; the input reads as it did. -/
def fnLoopErrorsSpec : ChangeSpec := { name := "fnLoopErrors", fn := fun _ => fun
  | [d] => { results := [.lit (.bool true)], args := [d] }
  | _ => none }
def fnLoopErrorsRow : OpenClaim := { program := "ytmcfhmflncghiaa", sum := "5e37934c23daa4497cc5b71af8658b0588b3ac47a8c8de1a43bb5c4dce9682bd", func := "loop.example/levellingnet/laws.FnLoopErrors", spec := "fnLoopErrors", recurses := true, apart := false }
def FnLoopErrorsSaid : Prop := fnLoopErrorsRow.holds Try.pinned (OpenSpec.ofChange fnLoopErrorsSpec)

/-- ITS FALSE NEIGHBOUR: 'it returns false'. Refute it at one input. -/
def fnLoopErrorsWrong : ChangeSpec := { name := "fnLoopErrors", fn := fun _ => fun
  | [d] => { results := [.lit (.bool false)], args := [d] }
  | _ => none }
def FnLoopErrorsWrongFalsely : Prop := fnLoopErrorsRow.holds Try.pinned (OpenSpec.ofChange fnLoopErrorsWrong)

/-- 'laws.FnShareNet': WHATEVER THE INPUT: true; the input reads as it did. -/
def fnShareNetSpec : ChangeSpec := { name := "fnShareNet", fn := fun _ => fun
  | [d] => { results := [.lit (.bool true)], args := [d] }
  | _ => none }
def fnShareNetRow : OpenClaim := { program := "ytmcfhmflncghiaa", sum := "5e37934c23daa4497cc5b71af8658b0588b3ac47a8c8de1a43bb5c4dce9682bd", func := "loop.example/levellingnet/laws.FnShareNet", spec := "fnShareNet", unfollowed := true, recurses := true, apart := false }
def FnShareNetSaid : Prop := fnShareNetRow.holds Try.pinned (OpenSpec.ofChange fnShareNetSpec)

/-- ITS FALSE NEIGHBOUR: 'it returns false'. Refute it at one input. -/
def fnShareNetWrong : ChangeSpec := { name := "fnShareNet", fn := fun _ => fun
  | [d] => { results := [.lit (.bool false)], args := [d] }
  | _ => none }
def FnShareNetWrongFalsely : Prop := fnShareNetRow.holds Try.pinned (OpenSpec.ofChange fnShareNetWrong)

/-- 'laws.FnShareRing': WHATEVER THE INPUT: true; the input reads as it did. -/
def fnShareRingSpec : ChangeSpec := { name := "fnShareRing", fn := fun _ => fun
  | [d] => { results := [.lit (.bool true)], args := [d] }
  | _ => none }
def fnShareRingRow : OpenClaim := { program := "ytmcfhmflncghiaa", sum := "5e37934c23daa4497cc5b71af8658b0588b3ac47a8c8de1a43bb5c4dce9682bd", func := "loop.example/levellingnet/laws.FnShareRing", spec := "fnShareRing", unfollowed := true, recurses := true, apart := false }
def FnShareRingSaid : Prop := fnShareRingRow.holds Try.pinned (OpenSpec.ofChange fnShareRingSpec)

/-- ITS FALSE NEIGHBOUR: 'it returns false'. Refute it at one input. -/
def fnShareRingWrong : ChangeSpec := { name := "fnShareRing", fn := fun _ => fun
  | [d] => { results := [.lit (.bool false)], args := [d] }
  | _ => none }
def FnShareRingWrongFalsely : Prop := fnShareRingRow.holds Try.pinned (OpenSpec.ofChange fnShareRingWrong)

/- THE SECOND FORM. 'bulk': how many values and letters a reading holds, each counted each time it is reached (what is shared counts as often as it is met; a slice's spare places count too). A statement '..UptoSaid' is the law's where the arguments, and the package variables that the reading takes, are together of bulk at most 1048576: NARROWER than '..Said'. Prove '..Said' where nothing that the law and all that it calls make is longer than what came in: it says more and counts as full. Else prove '..UptoSaid'. A law counts once. -/
mutual
def uptoBulk {H : Type} : DataW H → Nat
  | .lit (.string bytes) => bytes.length + 1
  | .lit _ => 1
  | .nil => 1
  | .ptr d => uptoBulk d + 1
  | .slice elems spare => uptoBulkAll elems + uptoBulkAll spare + 1
  | .agg parts => uptoBulkAll parts + 1
  | .iface _ d => uptoBulk d + 1
  | .map entries => uptoBulkEntries entries + 1
  | .held _ => 1
def uptoBulkAll {H : Type} : List (DataW H) → Nat
  | [] => 0
  | d :: r => uptoBulk d + uptoBulkAll r
def uptoBulkEntries {H : Type} : List (Lit × DataW H) → Nat
  | [] => 0
  | x :: r => uptoBulkEntry x + uptoBulkEntries r
def uptoBulkEntry {H : Type} : Lit × DataW H → Nat
  | (.string bytes, d) => bytes.length + uptoBulk d + 1
  | (_, d) => uptoBulk d + 1
 end
def uptoSmall : (H : Type) → List (DataW H) → Bool := fun _ ds => decide (uptoBulkAll ds ≤ 1048576)
def OpenSpec.upto (s : _root_.Go.ChangeSpec) : _root_.Go.OpenSpec := { _root_.Go.OpenSpec.ofChange s with cond := some uptoSmall }

/-- 'laws.FnLoopCloses', WHERE WHAT IT READS IS OF BULK AT MOST 1048576: true; the input reads as it did. -/
def fnLoopClosesUptoRow : OpenClaim := { program := "ytmcfhmflncghiaa", sum := "5e37934c23daa4497cc5b71af8658b0588b3ac47a8c8de1a43bb5c4dce9682bd", func := "loop.example/levellingnet/laws.FnLoopCloses", spec := "fnLoopCloses", recurses := true, apart := false, narrowed := true }
def FnLoopClosesUptoSaid : Prop := fnLoopClosesUptoRow.holds Try.pinned (OpenSpec.upto fnLoopClosesSpec)

/-- 'laws.FnLoopErrors', WHERE WHAT IT READS IS OF BULK AT MOST 1048576: true; the input reads as it did. -/
def fnLoopErrorsUptoRow : OpenClaim := { program := "ytmcfhmflncghiaa", sum := "5e37934c23daa4497cc5b71af8658b0588b3ac47a8c8de1a43bb5c4dce9682bd", func := "loop.example/levellingnet/laws.FnLoopErrors", spec := "fnLoopErrors", recurses := true, apart := false, narrowed := true }
def FnLoopErrorsUptoSaid : Prop := fnLoopErrorsUptoRow.holds Try.pinned (OpenSpec.upto fnLoopErrorsSpec)

/-- 'laws.FnShareNet', WHERE WHAT IT READS IS OF BULK AT MOST 1048576: true; the input reads as it did. -/
def fnShareNetUptoRow : OpenClaim := { program := "ytmcfhmflncghiaa", sum := "5e37934c23daa4497cc5b71af8658b0588b3ac47a8c8de1a43bb5c4dce9682bd", func := "loop.example/levellingnet/laws.FnShareNet", spec := "fnShareNet", unfollowed := true, recurses := true, apart := false, narrowed := true }
def FnShareNetUptoSaid : Prop := fnShareNetUptoRow.holds Try.pinned (OpenSpec.upto fnShareNetSpec)

/-- 'laws.FnShareRing', WHERE WHAT IT READS IS OF BULK AT MOST 1048576: true; the input reads as it did. -/
def fnShareRingUptoRow : OpenClaim := { program := "ytmcfhmflncghiaa", sum := "5e37934c23daa4497cc5b71af8658b0588b3ac47a8c8de1a43bb5c4dce9682bd", func := "loop.example/levellingnet/laws.FnShareRing", spec := "fnShareRing", unfollowed := true, recurses := true, apart := false, narrowed := true }
def FnShareRingUptoSaid : Prop := fnShareRingUptoRow.holds Try.pinned (OpenSpec.upto fnShareRingSpec)

end Rows
end Go.Proofs.Ytmcfhmflncghiaa
