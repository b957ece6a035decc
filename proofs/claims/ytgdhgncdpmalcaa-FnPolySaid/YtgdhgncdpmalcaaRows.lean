/-
  No cell of these rows narrows 'for every input' (looked for: loops, veiled, ifaces, maps, wideKeys, modest, calm, conditions, laid).
  DERIVED. THE GIVEN ROWS OF THIS SEAT. 8 by the template 'for every input the law returns true; each argument reads behind the call as it read before'; 0 by the template 'total and deterministic' (their statements: YtgdhgncdpmalcaaTotals.lean).
  GIVEN WITH THE SEED: the statements are not yours to turn. If you find one false, say at which input.
  Laid BY PROGRAM, IN A SANDBOX (cutbox-rows.mjs): the forced cells as the released guide's own fill.sh prints them over the translation fd6271535fc86a0a… (all of the seat's roots in one cut). By AI agents, Wed Nov 11 2026. No macro, syntax, notation, axiom, sorry.
-/
import Derived.Test.YtgdhgncdpmalcaaChecked
import GoSem.Claim
import GoSem.ClaimJoined
import GoSem.ClaimMapViews
import Derived.JoinedTies
import Derived.KernelRfl
namespace Go.Proofs.Ytgdhgncdpmalcaa
/- THE CELL 'sum', in the pinned program and in every row, IS THE sha256 OF THE DUMP (.gsa) THAT YtgdhgncdpmalcaaProg.lean LOADS. Nothing in Lean hashes anything: it is a label: what it is worth is what the hold of that sum in a sandbox is worth. -/
noncomputable def Try.pinned : Pinned := { name := "ytgdhgncdpmalcaa", sum := "fd6271535fc86a0a7806bfef677b211a6be2dccc86ae0e9f4c92ebfe539754ab", checked := Try.checked }
namespace Rows
def none {H : Type} : Left H := { results := [], args := [] }

/-- 'laws.FnPolyArea': WHATEVER THE INPUT: true; the input reads as it did. -/
def fnPolyAreaSpec : ChangeSpec := { name := "fnPolyArea", fn := fun _ => fun
  | [d1, d2] => { results := [.lit (.bool true)], args := [d1, d2] }
  | _ => none }
def fnPolyAreaRow : OpenClaim := { program := "ytgdhgncdpmalcaa", sum := "fd6271535fc86a0a7806bfef677b211a6be2dccc86ae0e9f4c92ebfe539754ab", func := "loop.example/levellingnet/laws.FnPolyArea", spec := "fnPolyArea", unfollowed := true, recurses := true, apart := false }
def FnPolyAreaSaid : Prop := fnPolyAreaRow.holds Try.pinned (OpenSpec.ofChange fnPolyAreaSpec)

/-- ITS FALSE NEIGHBOUR: 'it returns false'. Refute it at one input. -/
def fnPolyAreaWrong : ChangeSpec := { name := "fnPolyArea", fn := fun _ => fun
  | [d1, d2] => { results := [.lit (.bool false)], args := [d1, d2] }
  | _ => none }
def FnPolyAreaWrongFalsely : Prop := fnPolyAreaRow.holds Try.pinned (OpenSpec.ofChange fnPolyAreaWrong)

/-- 'laws.FnPoly': WHATEVER THE INPUT: true; the input reads as it did. -/
def fnPolySpec : ChangeSpec := { name := "fnPoly", fn := fun _ => fun
  | [d1, d2] => { results := [.lit (.bool true)], args := [d1, d2] }
  | _ => none }
def fnPolyRow : OpenClaim := { program := "ytgdhgncdpmalcaa", sum := "fd6271535fc86a0a7806bfef677b211a6be2dccc86ae0e9f4c92ebfe539754ab", func := "loop.example/levellingnet/laws.FnPoly", spec := "fnPoly", unfollowed := true, recurses := true, apart := false }
def FnPolySaid : Prop := fnPolyRow.holds Try.pinned (OpenSpec.ofChange fnPolySpec)

/-- ITS FALSE NEIGHBOUR: 'it returns false'. Refute it at one input. -/
def fnPolyWrong : ChangeSpec := { name := "fnPoly", fn := fun _ => fun
  | [d1, d2] => { results := [.lit (.bool false)], args := [d1, d2] }
  | _ => none }
def FnPolyWrongFalsely : Prop := fnPolyRow.holds Try.pinned (OpenSpec.ofChange fnPolyWrong)

/-- 'laws.FnParcel': WHATEVER THE INPUT: true; the input reads as it did. -/
def fnParcelSpec : ChangeSpec := { name := "fnParcel", fn := fun _ => fun
  | [d] => { results := [.lit (.bool true)], args := [d] }
  | _ => none }
def fnParcelRow : OpenClaim := { program := "ytgdhgncdpmalcaa", sum := "fd6271535fc86a0a7806bfef677b211a6be2dccc86ae0e9f4c92ebfe539754ab", func := "loop.example/levellingnet/laws.FnParcel", spec := "fnParcel", unfollowed := true, recurses := true, apart := false }
def FnParcelSaid : Prop := fnParcelRow.holds Try.pinned (OpenSpec.ofChange fnParcelSpec)

/-- ITS FALSE NEIGHBOUR: 'it returns false'. Refute it at one input. -/
def fnParcelWrong : ChangeSpec := { name := "fnParcel", fn := fun _ => fun
  | [d] => { results := [.lit (.bool false)], args := [d] }
  | _ => none }
def FnParcelWrongFalsely : Prop := fnParcelRow.holds Try.pinned (OpenSpec.ofChange fnParcelWrong)

/-- 'laws.FnPolyPlace': WHATEVER THE INPUT: true; the input reads as it did. -/
def fnPolyPlaceSpec : ChangeSpec := { name := "fnPolyPlace", fn := fun _ => fun
  | [d1, d2] => { results := [.lit (.bool true)], args := [d1, d2] }
  | _ => none }
def fnPolyPlaceRow : OpenClaim := { program := "ytgdhgncdpmalcaa", sum := "fd6271535fc86a0a7806bfef677b211a6be2dccc86ae0e9f4c92ebfe539754ab", func := "loop.example/levellingnet/laws.FnPolyPlace", spec := "fnPolyPlace", unfollowed := true, recurses := true, apart := false }
def FnPolyPlaceSaid : Prop := fnPolyPlaceRow.holds Try.pinned (OpenSpec.ofChange fnPolyPlaceSpec)

/-- ITS FALSE NEIGHBOUR: 'it returns false'. Refute it at one input. -/
def fnPolyPlaceWrong : ChangeSpec := { name := "fnPolyPlace", fn := fun _ => fun
  | [d1, d2] => { results := [.lit (.bool false)], args := [d1, d2] }
  | _ => none }
def FnPolyPlaceWrongFalsely : Prop := fnPolyPlaceRow.holds Try.pinned (OpenSpec.ofChange fnPolyPlaceWrong)

/-- 'laws.FnPolyConvex': WHATEVER THE INPUT: true; the input reads as it did. -/
def fnPolyConvexSpec : ChangeSpec := { name := "fnPolyConvex", fn := fun _ => fun
  | [d1, d2] => { results := [.lit (.bool true)], args := [d1, d2] }
  | _ => none }
def fnPolyConvexRow : OpenClaim := { program := "ytgdhgncdpmalcaa", sum := "fd6271535fc86a0a7806bfef677b211a6be2dccc86ae0e9f4c92ebfe539754ab", func := "loop.example/levellingnet/laws.FnPolyConvex", spec := "fnPolyConvex", unfollowed := true, recurses := true, apart := false }
def FnPolyConvexSaid : Prop := fnPolyConvexRow.holds Try.pinned (OpenSpec.ofChange fnPolyConvexSpec)

/-- ITS FALSE NEIGHBOUR: 'it returns false'. Refute it at one input. -/
def fnPolyConvexWrong : ChangeSpec := { name := "fnPolyConvex", fn := fun _ => fun
  | [d1, d2] => { results := [.lit (.bool false)], args := [d1, d2] }
  | _ => none }
def FnPolyConvexWrongFalsely : Prop := fnPolyConvexRow.holds Try.pinned (OpenSpec.ofChange fnPolyConvexWrong)

/-- 'laws.FnCommon': WHATEVER THE INPUT: true; the input reads as it did. -/
def fnCommonSpec : ChangeSpec := { name := "fnCommon", fn := fun _ => fun
  | [d] => { results := [.lit (.bool true)], args := [d] }
  | _ => none }
def fnCommonRow : OpenClaim := { program := "ytgdhgncdpmalcaa", sum := "fd6271535fc86a0a7806bfef677b211a6be2dccc86ae0e9f4c92ebfe539754ab", func := "loop.example/levellingnet/laws.FnCommon", spec := "fnCommon", unfollowed := true, recurses := true, apart := false }
def FnCommonSaid : Prop := fnCommonRow.holds Try.pinned (OpenSpec.ofChange fnCommonSpec)

/-- ITS FALSE NEIGHBOUR: 'it returns false'. Refute it at one input. -/
def fnCommonWrong : ChangeSpec := { name := "fnCommon", fn := fun _ => fun
  | [d] => { results := [.lit (.bool false)], args := [d] }
  | _ => none }
def FnCommonWrongFalsely : Prop := fnCommonRow.holds Try.pinned (OpenSpec.ofChange fnCommonWrong)

/-- 'laws.FnSplitPlace': WHATEVER THE INPUT: true; the input reads as it did. -/
def fnSplitPlaceSpec : ChangeSpec := { name := "fnSplitPlace", fn := fun _ => fun
  | [d1, d2] => { results := [.lit (.bool true)], args := [d1, d2] }
  | _ => none }
def fnSplitPlaceRow : OpenClaim := { program := "ytgdhgncdpmalcaa", sum := "fd6271535fc86a0a7806bfef677b211a6be2dccc86ae0e9f4c92ebfe539754ab", func := "loop.example/levellingnet/laws.FnSplitPlace", spec := "fnSplitPlace", unfollowed := true, recurses := true, apart := false }
def FnSplitPlaceSaid : Prop := fnSplitPlaceRow.holds Try.pinned (OpenSpec.ofChange fnSplitPlaceSpec)

/-- ITS FALSE NEIGHBOUR: 'it returns false'. Refute it at one input. -/
def fnSplitPlaceWrong : ChangeSpec := { name := "fnSplitPlace", fn := fun _ => fun
  | [d1, d2] => { results := [.lit (.bool false)], args := [d1, d2] }
  | _ => none }
def FnSplitPlaceWrongFalsely : Prop := fnSplitPlaceRow.holds Try.pinned (OpenSpec.ofChange fnSplitPlaceWrong)

/-- 'laws.FnPick': WHATEVER THE INPUT: true; the input reads as it did. -/
def fnPickSpec : ChangeSpec := { name := "fnPick", fn := fun _ => fun
  | [d] => { results := [.lit (.bool true)], args := [d] }
  | _ => none }
def fnPickRow : OpenClaim := { program := "ytgdhgncdpmalcaa", sum := "fd6271535fc86a0a7806bfef677b211a6be2dccc86ae0e9f4c92ebfe539754ab", func := "loop.example/levellingnet/laws.FnPick", spec := "fnPick", unfollowed := true, recurses := true, apart := false }
def FnPickSaid : Prop := fnPickRow.holds Try.pinned (OpenSpec.ofChange fnPickSpec)

/-- ITS FALSE NEIGHBOUR: 'it returns false'. Refute it at one input. -/
def fnPickWrong : ChangeSpec := { name := "fnPick", fn := fun _ => fun
  | [d] => { results := [.lit (.bool false)], args := [d] }
  | _ => none }
def FnPickWrongFalsely : Prop := fnPickRow.holds Try.pinned (OpenSpec.ofChange fnPickWrong)

/- THE SECOND FORM. 'bulk': how many values and letters a reading holds, each counted each time it is reached (what is shared counts as often as it is met; a slice's spare places count too). A statement '..UptoSaid' is the law's where the arguments, and the package variables that the reading takes, are together of bulk at most 1048576: NARROWER than '..Said'. Prove '..Said' where nothing that the law and all that it calls make is longer than what came in: it says more and counts as full. Else prove '..UptoSaid'. A law counts once. -/
mutual
def uptoBulk {H : Type} : DataW H → Nat
  | .lit (.string bytes) => bytes.length + 1
  | .lit _ => 1
  | .nil => 1
  | .ptr d => uptoBulk d + 1
  | .slice elems spare => uptoBulkAll elems + uptoBulkAll spare + 1
  | .agg parts => uptoBulkAll parts + 1
  | .iface _ d => uptoBulk d + 1
  | .map entries => uptoBulkEntries entries + 1
  | .held _ => 1
def uptoBulkAll {H : Type} : List (DataW H) → Nat
  | [] => 0
  | d :: r => uptoBulk d + uptoBulkAll r
def uptoBulkEntries {H : Type} : List (Lit × DataW H) → Nat
  | [] => 0
  | x :: r => uptoBulkEntry x + uptoBulkEntries r
def uptoBulkEntry {H : Type} : Lit × DataW H → Nat
  | (.string bytes, d) => bytes.length + uptoBulk d + 1
  | (_, d) => uptoBulk d + 1
 end
def uptoSmall : (H : Type) → List (DataW H) → Bool := fun _ ds => decide (uptoBulkAll ds ≤ 1048576)
def OpenSpec.upto (s : _root_.Go.ChangeSpec) : _root_.Go.OpenSpec := { _root_.Go.OpenSpec.ofChange s with cond := some uptoSmall }

/-- 'laws.FnPolyArea', WHERE WHAT IT READS IS OF BULK AT MOST 1048576: true; the input reads as it did. -/
def fnPolyAreaUptoRow : OpenClaim := { program := "ytgdhgncdpmalcaa", sum := "fd6271535fc86a0a7806bfef677b211a6be2dccc86ae0e9f4c92ebfe539754ab", func := "loop.example/levellingnet/laws.FnPolyArea", spec := "fnPolyArea", unfollowed := true, recurses := true, apart := false, narrowed := true }
def FnPolyAreaUptoSaid : Prop := fnPolyAreaUptoRow.holds Try.pinned (OpenSpec.upto fnPolyAreaSpec)

/-- 'laws.FnPoly', WHERE WHAT IT READS IS OF BULK AT MOST 1048576: true; the input reads as it did. -/
def fnPolyUptoRow : OpenClaim := { program := "ytgdhgncdpmalcaa", sum := "fd6271535fc86a0a7806bfef677b211a6be2dccc86ae0e9f4c92ebfe539754ab", func := "loop.example/levellingnet/laws.FnPoly", spec := "fnPoly", unfollowed := true, recurses := true, apart := false, narrowed := true }
def FnPolyUptoSaid : Prop := fnPolyUptoRow.holds Try.pinned (OpenSpec.upto fnPolySpec)

/-- 'laws.FnParcel', WHERE WHAT IT READS IS OF BULK AT MOST 1048576: true; the input reads as it did. -/
def fnParcelUptoRow : OpenClaim := { program := "ytgdhgncdpmalcaa", sum := "fd6271535fc86a0a7806bfef677b211a6be2dccc86ae0e9f4c92ebfe539754ab", func := "loop.example/levellingnet/laws.FnParcel", spec := "fnParcel", unfollowed := true, recurses := true, apart := false, narrowed := true }
def FnParcelUptoSaid : Prop := fnParcelUptoRow.holds Try.pinned (OpenSpec.upto fnParcelSpec)

/-- 'laws.FnPolyPlace', WHERE WHAT IT READS IS OF BULK AT MOST 1048576: true; the input reads as it did. -/
def fnPolyPlaceUptoRow : OpenClaim := { program := "ytgdhgncdpmalcaa", sum := "fd6271535fc86a0a7806bfef677b211a6be2dccc86ae0e9f4c92ebfe539754ab", func := "loop.example/levellingnet/laws.FnPolyPlace", spec := "fnPolyPlace", unfollowed := true, recurses := true, apart := false, narrowed := true }
def FnPolyPlaceUptoSaid : Prop := fnPolyPlaceUptoRow.holds Try.pinned (OpenSpec.upto fnPolyPlaceSpec)

/-- 'laws.FnPolyConvex', WHERE WHAT IT READS IS OF BULK AT MOST 1048576: true; the input reads as it did. -/
def fnPolyConvexUptoRow : OpenClaim := { program := "ytgdhgncdpmalcaa", sum := "fd6271535fc86a0a7806bfef677b211a6be2dccc86ae0e9f4c92ebfe539754ab", func := "loop.example/levellingnet/laws.FnPolyConvex", spec := "fnPolyConvex", unfollowed := true, recurses := true, apart := false, narrowed := true }
def FnPolyConvexUptoSaid : Prop := fnPolyConvexUptoRow.holds Try.pinned (OpenSpec.upto fnPolyConvexSpec)

/-- 'laws.FnCommon', WHERE WHAT IT READS IS OF BULK AT MOST 1048576: true; the input reads as it did. -/
def fnCommonUptoRow : OpenClaim := { program := "ytgdhgncdpmalcaa", sum := "fd6271535fc86a0a7806bfef677b211a6be2dccc86ae0e9f4c92ebfe539754ab", func := "loop.example/levellingnet/laws.FnCommon", spec := "fnCommon", unfollowed := true, recurses := true, apart := false, narrowed := true }
def FnCommonUptoSaid : Prop := fnCommonUptoRow.holds Try.pinned (OpenSpec.upto fnCommonSpec)

/-- 'laws.FnSplitPlace', WHERE WHAT IT READS IS OF BULK AT MOST 1048576: true; the input reads as it did. -/
def fnSplitPlaceUptoRow : OpenClaim := { program := "ytgdhgncdpmalcaa", sum := "fd6271535fc86a0a7806bfef677b211a6be2dccc86ae0e9f4c92ebfe539754ab", func := "loop.example/levellingnet/laws.FnSplitPlace", spec := "fnSplitPlace", unfollowed := true, recurses := true, apart := false, narrowed := true }
def FnSplitPlaceUptoSaid : Prop := fnSplitPlaceUptoRow.holds Try.pinned (OpenSpec.upto fnSplitPlaceSpec)

/-- 'laws.FnPick', WHERE WHAT IT READS IS OF BULK AT MOST 1048576: true; the input reads as it did. -/
def fnPickUptoRow : OpenClaim := { program := "ytgdhgncdpmalcaa", sum := "fd6271535fc86a0a7806bfef677b211a6be2dccc86ae0e9f4c92ebfe539754ab", func := "loop.example/levellingnet/laws.FnPick", spec := "fnPick", unfollowed := true, recurses := true, apart := false, narrowed := true }
def FnPickUptoSaid : Prop := fnPickUptoRow.holds Try.pinned (OpenSpec.upto fnPickSpec)

end Rows
end Go.Proofs.Ytgdhgncdpmalcaa
