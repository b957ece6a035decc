/-
  No cell of these rows narrows 'for every input' (looked for: loops, veiled, ifaces, maps, wideKeys, modest, calm, conditions, laid).
  DERIVED. THE GIVEN ROWS OF THIS SEAT. 12 by the template 'for every input the law returns true; each argument reads behind the call as it read before'; 0 by the template 'total and deterministic' (their statements: YtiieoannejlgiaaTotals.lean).
  GIVEN WITH THE SEED: the statements are not yours to turn. If you find one false, say at which input.
  Laid BY PROGRAM, IN A SANDBOX (cutbox-rows.mjs): the forced cells as the released guide's own fill.sh prints them over the translation b37dc8fcb45ccd51… (all of the seat's roots in one cut). By AI agents, Wed Nov 11 2026. No macro, syntax, notation, axiom, sorry.
-/
import Derived.Test.YtiieoannejlgiaaChecked
import GoSem.Claim
import GoSem.ClaimJoined
import GoSem.ClaimMapViews
import Derived.JoinedTies
import Derived.KernelRfl
namespace Go.Proofs.Ytiieoannejlgiaa
/- THE CELL 'sum', in the pinned program and in every row, IS THE sha256 OF THE DUMP (.gsa) THAT YtiieoannejlgiaaProg.lean LOADS. Nothing in Lean hashes anything: it is a label: what it is worth is what the hold of that sum in a sandbox is worth. -/
noncomputable def Try.pinned : Pinned := { name := "ytiieoannejlgiaa", sum := "b37dc8fcb45ccd51729e0ac382c3a612c844562ea584b87fc45783374d868cfd", checked := Try.checked }
namespace Rows
def none {H : Type} : Left H := { results := [], args := [] }

/-- 'laws.FnExactPolyBack': WHATEVER THE INPUT: true; the input reads as it did. -/
def fnExactPolyBackSpec : ChangeSpec := { name := "fnExactPolyBack", fn := fun _ => fun
  | [d] => { results := [.lit (.bool true)], args := [d] }
  | _ => none }
def fnExactPolyBackRow : OpenClaim := { program := "ytiieoannejlgiaa", sum := "b37dc8fcb45ccd51729e0ac382c3a612c844562ea584b87fc45783374d868cfd", func := "loop.example/levellingnet/laws.FnExactPolyBack", spec := "fnExactPolyBack", apart := false }
def FnExactPolyBackSaid : Prop := fnExactPolyBackRow.holds Try.pinned (OpenSpec.ofChange fnExactPolyBackSpec)

/-- ITS FALSE NEIGHBOUR: 'it returns false'. Refute it at one input. -/
def fnExactPolyBackWrong : ChangeSpec := { name := "fnExactPolyBack", fn := fun _ => fun
  | [d] => { results := [.lit (.bool false)], args := [d] }
  | _ => none }
def FnExactPolyBackWrongFalsely : Prop := fnExactPolyBackRow.holds Try.pinned (OpenSpec.ofChange fnExactPolyBackWrong)

/-- 'laws.FnExactPolyArea': WHATEVER THE INPUT: true; the input reads as it did. -/
def fnExactPolyAreaSpec : ChangeSpec := { name := "fnExactPolyArea", fn := fun _ => fun
  | [d] => { results := [.lit (.bool true)], args := [d] }
  | _ => none }
def fnExactPolyAreaRow : OpenClaim := { program := "ytiieoannejlgiaa", sum := "b37dc8fcb45ccd51729e0ac382c3a612c844562ea584b87fc45783374d868cfd", func := "loop.example/levellingnet/laws.FnExactPolyArea", spec := "fnExactPolyArea", unfollowed := true, recurses := true, apart := false }
def FnExactPolyAreaSaid : Prop := fnExactPolyAreaRow.holds Try.pinned (OpenSpec.ofChange fnExactPolyAreaSpec)

/-- ITS FALSE NEIGHBOUR: 'it returns false'. Refute it at one input. -/
def fnExactPolyAreaWrong : ChangeSpec := { name := "fnExactPolyArea", fn := fun _ => fun
  | [d] => { results := [.lit (.bool false)], args := [d] }
  | _ => none }
def FnExactPolyAreaWrongFalsely : Prop := fnExactPolyAreaRow.holds Try.pinned (OpenSpec.ofChange fnExactPolyAreaWrong)

/-- 'laws.FnExactPolyValid': WHATEVER THE INPUT: true; the input reads as it did. -/
def fnExactPolyValidSpec : ChangeSpec := { name := "fnExactPolyValid", fn := fun _ => fun
  | [d] => { results := [.lit (.bool true)], args := [d] }
  | _ => none }
def fnExactPolyValidRow : OpenClaim := { program := "ytiieoannejlgiaa", sum := "b37dc8fcb45ccd51729e0ac382c3a612c844562ea584b87fc45783374d868cfd", func := "loop.example/levellingnet/laws.FnExactPolyValid", spec := "fnExactPolyValid", unfollowed := true, recurses := true, apart := false }
def FnExactPolyValidSaid : Prop := fnExactPolyValidRow.holds Try.pinned (OpenSpec.ofChange fnExactPolyValidSpec)

/-- ITS FALSE NEIGHBOUR: 'it returns false'. Refute it at one input. -/
def fnExactPolyValidWrong : ChangeSpec := { name := "fnExactPolyValid", fn := fun _ => fun
  | [d] => { results := [.lit (.bool false)], args := [d] }
  | _ => none }
def FnExactPolyValidWrongFalsely : Prop := fnExactPolyValidRow.holds Try.pinned (OpenSpec.ofChange fnExactPolyValidWrong)

/-- 'laws.FnExactParcelValid': WHATEVER THE INPUT: true; the input reads as it did. -/
def fnExactParcelValidSpec : ChangeSpec := { name := "fnExactParcelValid", fn := fun _ => fun
  | [d] => { results := [.lit (.bool true)], args := [d] }
  | _ => none }
def fnExactParcelValidRow : OpenClaim := { program := "ytiieoannejlgiaa", sum := "b37dc8fcb45ccd51729e0ac382c3a612c844562ea584b87fc45783374d868cfd", func := "loop.example/levellingnet/laws.FnExactParcelValid", spec := "fnExactParcelValid", unfollowed := true, recurses := true, apart := false }
def FnExactParcelValidSaid : Prop := fnExactParcelValidRow.holds Try.pinned (OpenSpec.ofChange fnExactParcelValidSpec)

/-- ITS FALSE NEIGHBOUR: 'it returns false'. Refute it at one input. -/
def fnExactParcelValidWrong : ChangeSpec := { name := "fnExactParcelValid", fn := fun _ => fun
  | [d] => { results := [.lit (.bool false)], args := [d] }
  | _ => none }
def FnExactParcelValidWrongFalsely : Prop := fnExactParcelValidRow.holds Try.pinned (OpenSpec.ofChange fnExactParcelValidWrong)

/-- 'laws.FnExactPolyConvex': WHATEVER THE INPUT: true; the input reads as it did. -/
def fnExactPolyConvexSpec : ChangeSpec := { name := "fnExactPolyConvex", fn := fun _ => fun
  | [d] => { results := [.lit (.bool true)], args := [d] }
  | _ => none }
def fnExactPolyConvexRow : OpenClaim := { program := "ytiieoannejlgiaa", sum := "b37dc8fcb45ccd51729e0ac382c3a612c844562ea584b87fc45783374d868cfd", func := "loop.example/levellingnet/laws.FnExactPolyConvex", spec := "fnExactPolyConvex", unfollowed := true, recurses := true, apart := false }
def FnExactPolyConvexSaid : Prop := fnExactPolyConvexRow.holds Try.pinned (OpenSpec.ofChange fnExactPolyConvexSpec)

/-- ITS FALSE NEIGHBOUR: 'it returns false'. Refute it at one input. -/
def fnExactPolyConvexWrong : ChangeSpec := { name := "fnExactPolyConvex", fn := fun _ => fun
  | [d] => { results := [.lit (.bool false)], args := [d] }
  | _ => none }
def FnExactPolyConvexWrongFalsely : Prop := fnExactPolyConvexRow.holds Try.pinned (OpenSpec.ofChange fnExactPolyConvexWrong)

/-- 'laws.FnExactPolyPlace': WHATEVER THE INPUT: true; the input reads as it did. -/
def fnExactPolyPlaceSpec : ChangeSpec := { name := "fnExactPolyPlace", fn := fun _ => fun
  | [d1, d2] => { results := [.lit (.bool true)], args := [d1, d2] }
  | _ => none }
def fnExactPolyPlaceRow : OpenClaim := { program := "ytiieoannejlgiaa", sum := "b37dc8fcb45ccd51729e0ac382c3a612c844562ea584b87fc45783374d868cfd", func := "loop.example/levellingnet/laws.FnExactPolyPlace", spec := "fnExactPolyPlace", unfollowed := true, recurses := true, apart := false }
def FnExactPolyPlaceSaid : Prop := fnExactPolyPlaceRow.holds Try.pinned (OpenSpec.ofChange fnExactPolyPlaceSpec)

/-- ITS FALSE NEIGHBOUR: 'it returns false'. Refute it at one input. -/
def fnExactPolyPlaceWrong : ChangeSpec := { name := "fnExactPolyPlace", fn := fun _ => fun
  | [d1, d2] => { results := [.lit (.bool false)], args := [d1, d2] }
  | _ => none }
def FnExactPolyPlaceWrongFalsely : Prop := fnExactPolyPlaceRow.holds Try.pinned (OpenSpec.ofChange fnExactPolyPlaceWrong)

/-- 'laws.FnExactParcelCommon': WHATEVER THE INPUT: true; the input reads as it did. -/
def fnExactParcelCommonSpec : ChangeSpec := { name := "fnExactParcelCommon", fn := fun _ => fun
  | [d1, d2] => { results := [.lit (.bool true)], args := [d1, d2] }
  | _ => none }
def fnExactParcelCommonRow : OpenClaim := { program := "ytiieoannejlgiaa", sum := "b37dc8fcb45ccd51729e0ac382c3a612c844562ea584b87fc45783374d868cfd", func := "loop.example/levellingnet/laws.FnExactParcelCommon", spec := "fnExactParcelCommon", unfollowed := true, recurses := true, apart := false }
def FnExactParcelCommonSaid : Prop := fnExactParcelCommonRow.holds Try.pinned (OpenSpec.ofChange fnExactParcelCommonSpec)

/-- ITS FALSE NEIGHBOUR: 'it returns false'. Refute it at one input. -/
def fnExactParcelCommonWrong : ChangeSpec := { name := "fnExactParcelCommon", fn := fun _ => fun
  | [d1, d2] => { results := [.lit (.bool false)], args := [d1, d2] }
  | _ => none }
def FnExactParcelCommonWrongFalsely : Prop := fnExactParcelCommonRow.holds Try.pinned (OpenSpec.ofChange fnExactParcelCommonWrong)

/-- 'laws.FnExactParcelSplit': WHATEVER THE INPUT: true; the input reads as it did. -/
def fnExactParcelSplitSpec : ChangeSpec := { name := "fnExactParcelSplit", fn := fun _ => fun
  | [d1, d2, d3] => { results := [.lit (.bool true)], args := [d1, d2, d3] }
  | _ => none }
def fnExactParcelSplitRow : OpenClaim := { program := "ytiieoannejlgiaa", sum := "b37dc8fcb45ccd51729e0ac382c3a612c844562ea584b87fc45783374d868cfd", func := "loop.example/levellingnet/laws.FnExactParcelSplit", spec := "fnExactParcelSplit", unfollowed := true, recurses := true, apart := false }
def FnExactParcelSplitSaid : Prop := fnExactParcelSplitRow.holds Try.pinned (OpenSpec.ofChange fnExactParcelSplitSpec)

/-- ITS FALSE NEIGHBOUR: 'it returns false'. Refute it at one input. -/
def fnExactParcelSplitWrong : ChangeSpec := { name := "fnExactParcelSplit", fn := fun _ => fun
  | [d1, d2, d3] => { results := [.lit (.bool false)], args := [d1, d2, d3] }
  | _ => none }
def FnExactParcelSplitWrongFalsely : Prop := fnExactParcelSplitRow.holds Try.pinned (OpenSpec.ofChange fnExactParcelSplitWrong)

/-- 'laws.FnExactParcelMarks': WHATEVER THE INPUT: true; the input reads as it did. -/
def fnExactParcelMarksSpec : ChangeSpec := { name := "fnExactParcelMarks", fn := fun _ => fun
  | [d] => { results := [.lit (.bool true)], args := [d] }
  | _ => none }
def fnExactParcelMarksRow : OpenClaim := { program := "ytiieoannejlgiaa", sum := "b37dc8fcb45ccd51729e0ac382c3a612c844562ea584b87fc45783374d868cfd", func := "loop.example/levellingnet/laws.FnExactParcelMarks", spec := "fnExactParcelMarks", unfollowed := true, recurses := true, apart := false }
def FnExactParcelMarksSaid : Prop := fnExactParcelMarksRow.holds Try.pinned (OpenSpec.ofChange fnExactParcelMarksSpec)

/-- ITS FALSE NEIGHBOUR: 'it returns false'. Refute it at one input. -/
def fnExactParcelMarksWrong : ChangeSpec := { name := "fnExactParcelMarks", fn := fun _ => fun
  | [d] => { results := [.lit (.bool false)], args := [d] }
  | _ => none }
def FnExactParcelMarksWrongFalsely : Prop := fnExactParcelMarksRow.holds Try.pinned (OpenSpec.ofChange fnExactParcelMarksWrong)

/-- 'laws.FnExactPolyEdge': WHATEVER THE INPUT: true; the input reads as it did. -/
def fnExactPolyEdgeSpec : ChangeSpec := { name := "fnExactPolyEdge", fn := fun _ => fun
  | [d] => { results := [.lit (.bool true)], args := [d] }
  | _ => none }
def fnExactPolyEdgeRow : OpenClaim := { program := "ytiieoannejlgiaa", sum := "b37dc8fcb45ccd51729e0ac382c3a612c844562ea584b87fc45783374d868cfd", func := "loop.example/levellingnet/laws.FnExactPolyEdge", spec := "fnExactPolyEdge", unfollowed := true, recurses := true, apart := false }
def FnExactPolyEdgeSaid : Prop := fnExactPolyEdgeRow.holds Try.pinned (OpenSpec.ofChange fnExactPolyEdgeSpec)

/-- ITS FALSE NEIGHBOUR: 'it returns false'. Refute it at one input. -/
def fnExactPolyEdgeWrong : ChangeSpec := { name := "fnExactPolyEdge", fn := fun _ => fun
  | [d] => { results := [.lit (.bool false)], args := [d] }
  | _ => none }
def FnExactPolyEdgeWrongFalsely : Prop := fnExactPolyEdgeRow.holds Try.pinned (OpenSpec.ofChange fnExactPolyEdgeWrong)

/-- 'laws.FnExactPolyInside': WHATEVER THE INPUT: true; the input reads as it did. -/
def fnExactPolyInsideSpec : ChangeSpec := { name := "fnExactPolyInside", fn := fun _ => fun
  | [d] => { results := [.lit (.bool true)], args := [d] }
  | _ => none }
def fnExactPolyInsideRow : OpenClaim := { program := "ytiieoannejlgiaa", sum := "b37dc8fcb45ccd51729e0ac382c3a612c844562ea584b87fc45783374d868cfd", func := "loop.example/levellingnet/laws.FnExactPolyInside", spec := "fnExactPolyInside", unfollowed := true, recurses := true, apart := false }
def FnExactPolyInsideSaid : Prop := fnExactPolyInsideRow.holds Try.pinned (OpenSpec.ofChange fnExactPolyInsideSpec)

/-- ITS FALSE NEIGHBOUR: 'it returns false'. Refute it at one input. -/
def fnExactPolyInsideWrong : ChangeSpec := { name := "fnExactPolyInside", fn := fun _ => fun
  | [d] => { results := [.lit (.bool false)], args := [d] }
  | _ => none }
def FnExactPolyInsideWrongFalsely : Prop := fnExactPolyInsideRow.holds Try.pinned (OpenSpec.ofChange fnExactPolyInsideWrong)

/-- 'laws.FnExactParcelShare': WHATEVER THE INPUT: true; the input reads as it did. -/
def fnExactParcelShareSpec : ChangeSpec := { name := "fnExactParcelShare", fn := fun _ => fun
  | [d1, d2, d3] => { results := [.lit (.bool true)], args := [d1, d2, d3] }
  | _ => none }
def fnExactParcelShareRow : OpenClaim := { program := "ytiieoannejlgiaa", sum := "b37dc8fcb45ccd51729e0ac382c3a612c844562ea584b87fc45783374d868cfd", func := "loop.example/levellingnet/laws.FnExactParcelShare", spec := "fnExactParcelShare", unfollowed := true, recurses := true, apart := false }
def FnExactParcelShareSaid : Prop := fnExactParcelShareRow.holds Try.pinned (OpenSpec.ofChange fnExactParcelShareSpec)

/-- ITS FALSE NEIGHBOUR: 'it returns false'. Refute it at one input. -/
def fnExactParcelShareWrong : ChangeSpec := { name := "fnExactParcelShare", fn := fun _ => fun
  | [d1, d2, d3] => { results := [.lit (.bool false)], args := [d1, d2, d3] }
  | _ => none }
def FnExactParcelShareWrongFalsely : Prop := fnExactParcelShareRow.holds Try.pinned (OpenSpec.ofChange fnExactParcelShareWrong)

/- THE SECOND FORM. 'bulk': how many values and letters a reading holds, each counted each time it is reached (what is shared counts as often as it is met; a slice's spare places count too). A statement '..UptoSaid' is the law's where the arguments, and the package variables that the reading takes, are together of bulk at most 1048576: NARROWER than '..Said'. Prove '..Said' where nothing that the law and all that it calls make is longer than what came in: it says more and counts as full. Else prove '..UptoSaid'. A law counts once. -/
mutual
def uptoBulk {H : Type} : DataW H → Nat
  | .lit (.string bytes) => bytes.length + 1
  | .lit _ => 1
  | .nil => 1
  | .ptr d => uptoBulk d + 1
  | .slice elems spare => uptoBulkAll elems + uptoBulkAll spare + 1
  | .agg parts => uptoBulkAll parts + 1
  | .iface _ d => uptoBulk d + 1
  | .map entries => uptoBulkEntries entries + 1
  | .held _ => 1
def uptoBulkAll {H : Type} : List (DataW H) → Nat
  | [] => 0
  | d :: r => uptoBulk d + uptoBulkAll r
def uptoBulkEntries {H : Type} : List (Lit × DataW H) → Nat
  | [] => 0
  | x :: r => uptoBulkEntry x + uptoBulkEntries r
def uptoBulkEntry {H : Type} : Lit × DataW H → Nat
  | (.string bytes, d) => bytes.length + uptoBulk d + 1
  | (_, d) => uptoBulk d + 1
 end
def uptoSmall : (H : Type) → List (DataW H) → Bool := fun _ ds => decide (uptoBulkAll ds ≤ 1048576)
def OpenSpec.upto (s : _root_.Go.ChangeSpec) : _root_.Go.OpenSpec := { _root_.Go.OpenSpec.ofChange s with cond := some uptoSmall }

/-- 'laws.FnExactPolyBack', WHERE WHAT IT READS IS OF BULK AT MOST 1048576: true; the input reads as it did. -/
def fnExactPolyBackUptoRow : OpenClaim := { program := "ytiieoannejlgiaa", sum := "b37dc8fcb45ccd51729e0ac382c3a612c844562ea584b87fc45783374d868cfd", func := "loop.example/levellingnet/laws.FnExactPolyBack", spec := "fnExactPolyBack", apart := false, narrowed := true }
def FnExactPolyBackUptoSaid : Prop := fnExactPolyBackUptoRow.holds Try.pinned (OpenSpec.upto fnExactPolyBackSpec)

/-- 'laws.FnExactPolyArea', WHERE WHAT IT READS IS OF BULK AT MOST 1048576: true; the input reads as it did. -/
def fnExactPolyAreaUptoRow : OpenClaim := { program := "ytiieoannejlgiaa", sum := "b37dc8fcb45ccd51729e0ac382c3a612c844562ea584b87fc45783374d868cfd", func := "loop.example/levellingnet/laws.FnExactPolyArea", spec := "fnExactPolyArea", unfollowed := true, recurses := true, apart := false, narrowed := true }
def FnExactPolyAreaUptoSaid : Prop := fnExactPolyAreaUptoRow.holds Try.pinned (OpenSpec.upto fnExactPolyAreaSpec)

/-- 'laws.FnExactPolyValid', WHERE WHAT IT READS IS OF BULK AT MOST 1048576: true; the input reads as it did. -/
def fnExactPolyValidUptoRow : OpenClaim := { program := "ytiieoannejlgiaa", sum := "b37dc8fcb45ccd51729e0ac382c3a612c844562ea584b87fc45783374d868cfd", func := "loop.example/levellingnet/laws.FnExactPolyValid", spec := "fnExactPolyValid", unfollowed := true, recurses := true, apart := false, narrowed := true }
def FnExactPolyValidUptoSaid : Prop := fnExactPolyValidUptoRow.holds Try.pinned (OpenSpec.upto fnExactPolyValidSpec)

/-- 'laws.FnExactParcelValid', WHERE WHAT IT READS IS OF BULK AT MOST 1048576: true; the input reads as it did. -/
def fnExactParcelValidUptoRow : OpenClaim := { program := "ytiieoannejlgiaa", sum := "b37dc8fcb45ccd51729e0ac382c3a612c844562ea584b87fc45783374d868cfd", func := "loop.example/levellingnet/laws.FnExactParcelValid", spec := "fnExactParcelValid", unfollowed := true, recurses := true, apart := false, narrowed := true }
def FnExactParcelValidUptoSaid : Prop := fnExactParcelValidUptoRow.holds Try.pinned (OpenSpec.upto fnExactParcelValidSpec)

/-- 'laws.FnExactPolyConvex', WHERE WHAT IT READS IS OF BULK AT MOST 1048576: true; the input reads as it did. -/
def fnExactPolyConvexUptoRow : OpenClaim := { program := "ytiieoannejlgiaa", sum := "b37dc8fcb45ccd51729e0ac382c3a612c844562ea584b87fc45783374d868cfd", func := "loop.example/levellingnet/laws.FnExactPolyConvex", spec := "fnExactPolyConvex", unfollowed := true, recurses := true, apart := false, narrowed := true }
def FnExactPolyConvexUptoSaid : Prop := fnExactPolyConvexUptoRow.holds Try.pinned (OpenSpec.upto fnExactPolyConvexSpec)

/-- 'laws.FnExactPolyPlace', WHERE WHAT IT READS IS OF BULK AT MOST 1048576: true; the input reads as it did. -/
def fnExactPolyPlaceUptoRow : OpenClaim := { program := "ytiieoannejlgiaa", sum := "b37dc8fcb45ccd51729e0ac382c3a612c844562ea584b87fc45783374d868cfd", func := "loop.example/levellingnet/laws.FnExactPolyPlace", spec := "fnExactPolyPlace", unfollowed := true, recurses := true, apart := false, narrowed := true }
def FnExactPolyPlaceUptoSaid : Prop := fnExactPolyPlaceUptoRow.holds Try.pinned (OpenSpec.upto fnExactPolyPlaceSpec)

/-- 'laws.FnExactParcelCommon', WHERE WHAT IT READS IS OF BULK AT MOST 1048576: true; the input reads as it did. -/
def fnExactParcelCommonUptoRow : OpenClaim := { program := "ytiieoannejlgiaa", sum := "b37dc8fcb45ccd51729e0ac382c3a612c844562ea584b87fc45783374d868cfd", func := "loop.example/levellingnet/laws.FnExactParcelCommon", spec := "fnExactParcelCommon", unfollowed := true, recurses := true, apart := false, narrowed := true }
def FnExactParcelCommonUptoSaid : Prop := fnExactParcelCommonUptoRow.holds Try.pinned (OpenSpec.upto fnExactParcelCommonSpec)

/-- 'laws.FnExactParcelSplit', WHERE WHAT IT READS IS OF BULK AT MOST 1048576: true; the input reads as it did. -/
def fnExactParcelSplitUptoRow : OpenClaim := { program := "ytiieoannejlgiaa", sum := "b37dc8fcb45ccd51729e0ac382c3a612c844562ea584b87fc45783374d868cfd", func := "loop.example/levellingnet/laws.FnExactParcelSplit", spec := "fnExactParcelSplit", unfollowed := true, recurses := true, apart := false, narrowed := true }
def FnExactParcelSplitUptoSaid : Prop := fnExactParcelSplitUptoRow.holds Try.pinned (OpenSpec.upto fnExactParcelSplitSpec)

/-- 'laws.FnExactParcelMarks', WHERE WHAT IT READS IS OF BULK AT MOST 1048576: true; the input reads as it did. -/
def fnExactParcelMarksUptoRow : OpenClaim := { program := "ytiieoannejlgiaa", sum := "b37dc8fcb45ccd51729e0ac382c3a612c844562ea584b87fc45783374d868cfd", func := "loop.example/levellingnet/laws.FnExactParcelMarks", spec := "fnExactParcelMarks", unfollowed := true, recurses := true, apart := false, narrowed := true }
def FnExactParcelMarksUptoSaid : Prop := fnExactParcelMarksUptoRow.holds Try.pinned (OpenSpec.upto fnExactParcelMarksSpec)

/-- 'laws.FnExactPolyEdge', WHERE WHAT IT READS IS OF BULK AT MOST 1048576: true; the input reads as it did. -/
def fnExactPolyEdgeUptoRow : OpenClaim := { program := "ytiieoannejlgiaa", sum := "b37dc8fcb45ccd51729e0ac382c3a612c844562ea584b87fc45783374d868cfd", func := "loop.example/levellingnet/laws.FnExactPolyEdge", spec := "fnExactPolyEdge", unfollowed := true, recurses := true, apart := false, narrowed := true }
def FnExactPolyEdgeUptoSaid : Prop := fnExactPolyEdgeUptoRow.holds Try.pinned (OpenSpec.upto fnExactPolyEdgeSpec)

/-- 'laws.FnExactPolyInside', WHERE WHAT IT READS IS OF BULK AT MOST 1048576: true; the input reads as it did. -/
def fnExactPolyInsideUptoRow : OpenClaim := { program := "ytiieoannejlgiaa", sum := "b37dc8fcb45ccd51729e0ac382c3a612c844562ea584b87fc45783374d868cfd", func := "loop.example/levellingnet/laws.FnExactPolyInside", spec := "fnExactPolyInside", unfollowed := true, recurses := true, apart := false, narrowed := true }
def FnExactPolyInsideUptoSaid : Prop := fnExactPolyInsideUptoRow.holds Try.pinned (OpenSpec.upto fnExactPolyInsideSpec)

/-- 'laws.FnExactParcelShare', WHERE WHAT IT READS IS OF BULK AT MOST 1048576: true; the input reads as it did. -/
def fnExactParcelShareUptoRow : OpenClaim := { program := "ytiieoannejlgiaa", sum := "b37dc8fcb45ccd51729e0ac382c3a612c844562ea584b87fc45783374d868cfd", func := "loop.example/levellingnet/laws.FnExactParcelShare", spec := "fnExactParcelShare", unfollowed := true, recurses := true, apart := false, narrowed := true }
def FnExactParcelShareUptoSaid : Prop := fnExactParcelShareUptoRow.holds Try.pinned (OpenSpec.upto fnExactParcelShareSpec)

end Rows
end Go.Proofs.Ytiieoannejlgiaa
