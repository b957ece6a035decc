/-
  No cell of these rows narrows 'for every input' (looked for: loops, veiled, ifaces, maps, wideKeys, modest, calm, conditions, laid).
  DERIVED. THE GIVEN ROWS OF THIS SEAT. 9 by the template 'for every input the law returns true; each argument reads behind the call as it read before'; 0 by the template 'total and deterministic' (their statements: YtfmjhckndlngaaaTotals.lean).
  GIVEN WITH THE SEED: the statements are not yours to turn. If you find one false, say at which input.
  Laid BY PROGRAM, IN A SANDBOX (cutbox-rows.mjs): the forced cells as the released guide's own fill.sh prints them over the translation 41ed0cf40c477f37… (all of the seat's roots in one cut). By AI agents, Wed Nov 11 2026. No macro, syntax, notation, axiom, sorry.
-/
import Derived.Test.YtfmjhckndlngaaaChecked
import GoSem.Claim
import GoSem.ClaimJoined
import GoSem.ClaimMapViews
import Derived.JoinedTies
import Derived.KernelRfl
namespace Go.Proofs.Ytfmjhckndlngaaa
/- THE CELL 'sum', in the pinned program and in every row, IS THE sha256 OF THE DUMP (.gsa) THAT YtfmjhckndlngaaaProg.lean LOADS. Nothing in Lean hashes anything: it is a label: what it is worth is what the hold of that sum in a sandbox is worth. -/
noncomputable def Try.pinned : Pinned := { name := "ytfmjhckndlngaaa", sum := "41ed0cf40c477f37cda9f9e44628fbdd9ef7d02a1f704c552cdf3f0ec970a72e", checked := Try.checked }
namespace Rows
def none {H : Type} : Left H := { results := [], args := [] }

/-- 'laws.FnExactShareFar': WHATEVER THE INPUT: true; the input reads as it did. -/
def fnExactShareFarSpec : ChangeSpec := { name := "fnExactShareFar", fn := fun _ => fun
  | [d1, d2, d3] => { results := [.lit (.bool true)], args := [d1, d2, d3] }
  | _ => none }
def fnExactShareFarRow : OpenClaim := { program := "ytfmjhckndlngaaa", sum := "41ed0cf40c477f37cda9f9e44628fbdd9ef7d02a1f704c552cdf3f0ec970a72e", func := "loop.example/levellingnet/laws.FnExactShareFar", spec := "fnExactShareFar", apart := false }
def FnExactShareFarSaid : Prop := fnExactShareFarRow.holds Try.pinned (OpenSpec.ofChange fnExactShareFarSpec)

/-- ITS FALSE NEIGHBOUR: 'it returns false'. Refute it at one input. -/
def fnExactShareFarWrong : ChangeSpec := { name := "fnExactShareFar", fn := fun _ => fun
  | [d1, d2, d3] => { results := [.lit (.bool false)], args := [d1, d2, d3] }
  | _ => none }
def FnExactShareFarWrongFalsely : Prop := fnExactShareFarRow.holds Try.pinned (OpenSpec.ofChange fnExactShareFarWrong)

/-- 'laws.FnExactShareOk': WHATEVER THE INPUT: true; the input reads as it did. -/
def fnExactShareOkSpec : ChangeSpec := { name := "fnExactShareOk", fn := fun _ => fun
  | [d1, d2, d3] => { results := [.lit (.bool true)], args := [d1, d2, d3] }
  | _ => none }
def fnExactShareOkRow : OpenClaim := { program := "ytfmjhckndlngaaa", sum := "41ed0cf40c477f37cda9f9e44628fbdd9ef7d02a1f704c552cdf3f0ec970a72e", func := "loop.example/levellingnet/laws.FnExactShareOk", spec := "fnExactShareOk", apart := false }
def FnExactShareOkSaid : Prop := fnExactShareOkRow.holds Try.pinned (OpenSpec.ofChange fnExactShareOkSpec)

/-- ITS FALSE NEIGHBOUR: 'it returns false'. Refute it at one input. -/
def fnExactShareOkWrong : ChangeSpec := { name := "fnExactShareOk", fn := fun _ => fun
  | [d1, d2, d3] => { results := [.lit (.bool false)], args := [d1, d2, d3] }
  | _ => none }
def FnExactShareOkWrongFalsely : Prop := fnExactShareOkRow.holds Try.pinned (OpenSpec.ofChange fnExactShareOkWrong)

/-- 'laws.FnExactShareOf': WHATEVER THE INPUT: true; the input reads as it did. -/
def fnExactShareOfSpec : ChangeSpec := { name := "fnExactShareOf", fn := fun _ => fun
  | [d1, d2] => { results := [.lit (.bool true)], args := [d1, d2] }
  | _ => none }
def fnExactShareOfRow : OpenClaim := { program := "ytfmjhckndlngaaa", sum := "41ed0cf40c477f37cda9f9e44628fbdd9ef7d02a1f704c552cdf3f0ec970a72e", func := "loop.example/levellingnet/laws.FnExactShareOf", spec := "fnExactShareOf", unfollowed := true, recurses := true, apart := false }
def FnExactShareOfSaid : Prop := fnExactShareOfRow.holds Try.pinned (OpenSpec.ofChange fnExactShareOfSpec)

/-- ITS FALSE NEIGHBOUR: 'it returns false'. Refute it at one input. -/
def fnExactShareOfWrong : ChangeSpec := { name := "fnExactShareOf", fn := fun _ => fun
  | [d1, d2] => { results := [.lit (.bool false)], args := [d1, d2] }
  | _ => none }
def FnExactShareOfWrongFalsely : Prop := fnExactShareOfRow.holds Try.pinned (OpenSpec.ofChange fnExactShareOfWrong)

/-- 'laws.FnExactShareRises': WHATEVER THE INPUT: true; the input reads as it did. -/
def fnExactShareRisesSpec : ChangeSpec := { name := "fnExactShareRises", fn := fun _ => fun
  | [d1, d2] => { results := [.lit (.bool true)], args := [d1, d2] }
  | _ => none }
def fnExactShareRisesRow : OpenClaim := { program := "ytfmjhckndlngaaa", sum := "41ed0cf40c477f37cda9f9e44628fbdd9ef7d02a1f704c552cdf3f0ec970a72e", func := "loop.example/levellingnet/laws.FnExactShareRises", spec := "fnExactShareRises", unfollowed := true, recurses := true, apart := false }
def FnExactShareRisesSaid : Prop := fnExactShareRisesRow.holds Try.pinned (OpenSpec.ofChange fnExactShareRisesSpec)

/-- ITS FALSE NEIGHBOUR: 'it returns false'. Refute it at one input. -/
def fnExactShareRisesWrong : ChangeSpec := { name := "fnExactShareRises", fn := fun _ => fun
  | [d1, d2] => { results := [.lit (.bool false)], args := [d1, d2] }
  | _ => none }
def FnExactShareRisesWrongFalsely : Prop := fnExactShareRisesRow.holds Try.pinned (OpenSpec.ofChange fnExactShareRisesWrong)

/-- 'laws.FnShareFar': WHATEVER THE INPUT: true; the input reads as it did. -/
def fnShareFarSpec : ChangeSpec := { name := "fnShareFar", fn := fun _ => fun
  | [d1, d2] => { results := [.lit (.bool true)], args := [d1, d2] }
  | _ => none }
def fnShareFarRow : OpenClaim := { program := "ytfmjhckndlngaaa", sum := "41ed0cf40c477f37cda9f9e44628fbdd9ef7d02a1f704c552cdf3f0ec970a72e", func := "loop.example/levellingnet/laws.FnShareFar", spec := "fnShareFar", apart := false }
def FnShareFarSaid : Prop := fnShareFarRow.holds Try.pinned (OpenSpec.ofChange fnShareFarSpec)

/-- ITS FALSE NEIGHBOUR: 'it returns false'. Refute it at one input. -/
def fnShareFarWrong : ChangeSpec := { name := "fnShareFar", fn := fun _ => fun
  | [d1, d2] => { results := [.lit (.bool false)], args := [d1, d2] }
  | _ => none }
def FnShareFarWrongFalsely : Prop := fnShareFarRow.holds Try.pinned (OpenSpec.ofChange fnShareFarWrong)

/-- 'laws.FnShareMore': WHATEVER THE INPUT: true; the input reads as it did. -/
def fnShareMoreSpec : ChangeSpec := { name := "fnShareMore", fn := fun _ => fun
  | [d] => { results := [.lit (.bool true)], args := [d] }
  | _ => none }
def fnShareMoreRow : OpenClaim := { program := "ytfmjhckndlngaaa", sum := "41ed0cf40c477f37cda9f9e44628fbdd9ef7d02a1f704c552cdf3f0ec970a72e", func := "loop.example/levellingnet/laws.FnShareMore", spec := "fnShareMore", unfollowed := true, recurses := true, apart := false }
def FnShareMoreSaid : Prop := fnShareMoreRow.holds Try.pinned (OpenSpec.ofChange fnShareMoreSpec)

/-- ITS FALSE NEIGHBOUR: 'it returns false'. Refute it at one input. -/
def fnShareMoreWrong : ChangeSpec := { name := "fnShareMore", fn := fun _ => fun
  | [d] => { results := [.lit (.bool false)], args := [d] }
  | _ => none }
def FnShareMoreWrongFalsely : Prop := fnShareMoreRow.holds Try.pinned (OpenSpec.ofChange fnShareMoreWrong)

/-- 'laws.FnShareBest': WHATEVER THE INPUT: true; the input reads as it did. -/
def fnShareBestSpec : ChangeSpec := { name := "fnShareBest", fn := fun _ => fun
  | [d1, d2] => { results := [.lit (.bool true)], args := [d1, d2] }
  | _ => none }
def fnShareBestRow : OpenClaim := { program := "ytfmjhckndlngaaa", sum := "41ed0cf40c477f37cda9f9e44628fbdd9ef7d02a1f704c552cdf3f0ec970a72e", func := "loop.example/levellingnet/laws.FnShareBest", spec := "fnShareBest", unfollowed := true, recurses := true, apart := false }
def FnShareBestSaid : Prop := fnShareBestRow.holds Try.pinned (OpenSpec.ofChange fnShareBestSpec)

/-- ITS FALSE NEIGHBOUR: 'it returns false'. Refute it at one input. -/
def fnShareBestWrong : ChangeSpec := { name := "fnShareBest", fn := fun _ => fun
  | [d1, d2] => { results := [.lit (.bool false)], args := [d1, d2] }
  | _ => none }
def FnShareBestWrongFalsely : Prop := fnShareBestRow.holds Try.pinned (OpenSpec.ofChange fnShareBestWrong)

/-- 'laws.FnShare': WHATEVER THE INPUT: true; the input reads as it did. -/
def fnShareSpec : ChangeSpec := { name := "fnShare", fn := fun _ => fun
  | [d] => { results := [.lit (.bool true)], args := [d] }
  | _ => none }
def fnShareRow : OpenClaim := { program := "ytfmjhckndlngaaa", sum := "41ed0cf40c477f37cda9f9e44628fbdd9ef7d02a1f704c552cdf3f0ec970a72e", func := "loop.example/levellingnet/laws.FnShare", spec := "fnShare", unfollowed := true, recurses := true, apart := false }
def FnShareSaid : Prop := fnShareRow.holds Try.pinned (OpenSpec.ofChange fnShareSpec)

/-- ITS FALSE NEIGHBOUR: 'it returns false'. Refute it at one input. -/
def fnShareWrong : ChangeSpec := { name := "fnShare", fn := fun _ => fun
  | [d] => { results := [.lit (.bool false)], args := [d] }
  | _ => none }
def FnShareWrongFalsely : Prop := fnShareRow.holds Try.pinned (OpenSpec.ofChange fnShareWrong)

/-- 'laws.FnShareOk': WHATEVER THE INPUT: true; the input reads as it did. -/
def fnShareOkSpec : ChangeSpec := { name := "fnShareOk", fn := fun _ => fun
  | [d] => { results := [.lit (.bool true)], args := [d] }
  | _ => none }
def fnShareOkRow : OpenClaim := { program := "ytfmjhckndlngaaa", sum := "41ed0cf40c477f37cda9f9e44628fbdd9ef7d02a1f704c552cdf3f0ec970a72e", func := "loop.example/levellingnet/laws.FnShareOk", spec := "fnShareOk", unfollowed := true, recurses := true, apart := false }
def FnShareOkSaid : Prop := fnShareOkRow.holds Try.pinned (OpenSpec.ofChange fnShareOkSpec)

/-- ITS FALSE NEIGHBOUR: 'it returns false'. Refute it at one input. -/
def fnShareOkWrong : ChangeSpec := { name := "fnShareOk", fn := fun _ => fun
  | [d] => { results := [.lit (.bool false)], args := [d] }
  | _ => none }
def FnShareOkWrongFalsely : Prop := fnShareOkRow.holds Try.pinned (OpenSpec.ofChange fnShareOkWrong)

/- THE SECOND FORM. 'bulk': how many values and letters a reading holds, each counted each time it is reached (what is shared counts as often as it is met; a slice's spare places count too). A statement '..UptoSaid' is the law's where the arguments, and the package variables that the reading takes, are together of bulk at most 1048576: NARROWER than '..Said'. Prove '..Said' where nothing that the law and all that it calls make is longer than what came in: it says more and counts as full. Else prove '..UptoSaid'. A law counts once. -/
mutual
def uptoBulk {H : Type} : DataW H → Nat
  | .lit (.string bytes) => bytes.length + 1
  | .lit _ => 1
  | .nil => 1
  | .ptr d => uptoBulk d + 1
  | .slice elems spare => uptoBulkAll elems + uptoBulkAll spare + 1
  | .agg parts => uptoBulkAll parts + 1
  | .iface _ d => uptoBulk d + 1
  | .map entries => uptoBulkEntries entries + 1
  | .held _ => 1
def uptoBulkAll {H : Type} : List (DataW H) → Nat
  | [] => 0
  | d :: r => uptoBulk d + uptoBulkAll r
def uptoBulkEntries {H : Type} : List (Lit × DataW H) → Nat
  | [] => 0
  | x :: r => uptoBulkEntry x + uptoBulkEntries r
def uptoBulkEntry {H : Type} : Lit × DataW H → Nat
  | (.string bytes, d) => bytes.length + uptoBulk d + 1
  | (_, d) => uptoBulk d + 1
 end
def uptoSmall : (H : Type) → List (DataW H) → Bool := fun _ ds => decide (uptoBulkAll ds ≤ 1048576)
def OpenSpec.upto (s : _root_.Go.ChangeSpec) : _root_.Go.OpenSpec := { _root_.Go.OpenSpec.ofChange s with cond := some uptoSmall }

/-- 'laws.FnExactShareFar', WHERE WHAT IT READS IS OF BULK AT MOST 1048576: true; the input reads as it did. -/
def fnExactShareFarUptoRow : OpenClaim := { program := "ytfmjhckndlngaaa", sum := "41ed0cf40c477f37cda9f9e44628fbdd9ef7d02a1f704c552cdf3f0ec970a72e", func := "loop.example/levellingnet/laws.FnExactShareFar", spec := "fnExactShareFar", apart := false, narrowed := true }
def FnExactShareFarUptoSaid : Prop := fnExactShareFarUptoRow.holds Try.pinned (OpenSpec.upto fnExactShareFarSpec)

/-- 'laws.FnExactShareOk', WHERE WHAT IT READS IS OF BULK AT MOST 1048576: true; the input reads as it did. -/
def fnExactShareOkUptoRow : OpenClaim := { program := "ytfmjhckndlngaaa", sum := "41ed0cf40c477f37cda9f9e44628fbdd9ef7d02a1f704c552cdf3f0ec970a72e", func := "loop.example/levellingnet/laws.FnExactShareOk", spec := "fnExactShareOk", apart := false, narrowed := true }
def FnExactShareOkUptoSaid : Prop := fnExactShareOkUptoRow.holds Try.pinned (OpenSpec.upto fnExactShareOkSpec)

/-- 'laws.FnExactShareOf', WHERE WHAT IT READS IS OF BULK AT MOST 1048576: true; the input reads as it did. -/
def fnExactShareOfUptoRow : OpenClaim := { program := "ytfmjhckndlngaaa", sum := "41ed0cf40c477f37cda9f9e44628fbdd9ef7d02a1f704c552cdf3f0ec970a72e", func := "loop.example/levellingnet/laws.FnExactShareOf", spec := "fnExactShareOf", unfollowed := true, recurses := true, apart := false, narrowed := true }
def FnExactShareOfUptoSaid : Prop := fnExactShareOfUptoRow.holds Try.pinned (OpenSpec.upto fnExactShareOfSpec)

/-- 'laws.FnExactShareRises', WHERE WHAT IT READS IS OF BULK AT MOST 1048576: true; the input reads as it did. -/
def fnExactShareRisesUptoRow : OpenClaim := { program := "ytfmjhckndlngaaa", sum := "41ed0cf40c477f37cda9f9e44628fbdd9ef7d02a1f704c552cdf3f0ec970a72e", func := "loop.example/levellingnet/laws.FnExactShareRises", spec := "fnExactShareRises", unfollowed := true, recurses := true, apart := false, narrowed := true }
def FnExactShareRisesUptoSaid : Prop := fnExactShareRisesUptoRow.holds Try.pinned (OpenSpec.upto fnExactShareRisesSpec)

/-- 'laws.FnShareFar', WHERE WHAT IT READS IS OF BULK AT MOST 1048576: true; the input reads as it did. -/
def fnShareFarUptoRow : OpenClaim := { program := "ytfmjhckndlngaaa", sum := "41ed0cf40c477f37cda9f9e44628fbdd9ef7d02a1f704c552cdf3f0ec970a72e", func := "loop.example/levellingnet/laws.FnShareFar", spec := "fnShareFar", apart := false, narrowed := true }
def FnShareFarUptoSaid : Prop := fnShareFarUptoRow.holds Try.pinned (OpenSpec.upto fnShareFarSpec)

/-- 'laws.FnShareMore', WHERE WHAT IT READS IS OF BULK AT MOST 1048576: true; the input reads as it did. -/
def fnShareMoreUptoRow : OpenClaim := { program := "ytfmjhckndlngaaa", sum := "41ed0cf40c477f37cda9f9e44628fbdd9ef7d02a1f704c552cdf3f0ec970a72e", func := "loop.example/levellingnet/laws.FnShareMore", spec := "fnShareMore", unfollowed := true, recurses := true, apart := false, narrowed := true }
def FnShareMoreUptoSaid : Prop := fnShareMoreUptoRow.holds Try.pinned (OpenSpec.upto fnShareMoreSpec)

/-- 'laws.FnShareBest', WHERE WHAT IT READS IS OF BULK AT MOST 1048576: true; the input reads as it did. -/
def fnShareBestUptoRow : OpenClaim := { program := "ytfmjhckndlngaaa", sum := "41ed0cf40c477f37cda9f9e44628fbdd9ef7d02a1f704c552cdf3f0ec970a72e", func := "loop.example/levellingnet/laws.FnShareBest", spec := "fnShareBest", unfollowed := true, recurses := true, apart := false, narrowed := true }
def FnShareBestUptoSaid : Prop := fnShareBestUptoRow.holds Try.pinned (OpenSpec.upto fnShareBestSpec)

/-- 'laws.FnShare', WHERE WHAT IT READS IS OF BULK AT MOST 1048576: true; the input reads as it did. -/
def fnShareUptoRow : OpenClaim := { program := "ytfmjhckndlngaaa", sum := "41ed0cf40c477f37cda9f9e44628fbdd9ef7d02a1f704c552cdf3f0ec970a72e", func := "loop.example/levellingnet/laws.FnShare", spec := "fnShare", unfollowed := true, recurses := true, apart := false, narrowed := true }
def FnShareUptoSaid : Prop := fnShareUptoRow.holds Try.pinned (OpenSpec.upto fnShareSpec)

/-- 'laws.FnShareOk', WHERE WHAT IT READS IS OF BULK AT MOST 1048576: true; the input reads as it did. -/
def fnShareOkUptoRow : OpenClaim := { program := "ytfmjhckndlngaaa", sum := "41ed0cf40c477f37cda9f9e44628fbdd9ef7d02a1f704c552cdf3f0ec970a72e", func := "loop.example/levellingnet/laws.FnShareOk", spec := "fnShareOk", unfollowed := true, recurses := true, apart := false, narrowed := true }
def FnShareOkUptoSaid : Prop := fnShareOkUptoRow.holds Try.pinned (OpenSpec.upto fnShareOkSpec)

end Rows
end Go.Proofs.Ytfmjhckndlngaaa
