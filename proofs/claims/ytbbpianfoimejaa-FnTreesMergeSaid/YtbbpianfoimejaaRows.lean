/-
  No cell of these rows narrows 'for every input' (looked for: loops, veiled, ifaces, maps, wideKeys, modest, calm, conditions, laid).
  DERIVED. THE GIVEN ROWS OF THIS SEAT. 6 by the template 'for every input the law returns true; each argument reads behind the call as it read before'; 0 by the template 'total and deterministic' (their statements: YtbbpianfoimejaaTotals.lean).
  GIVEN WITH THE SEED: the statements are not yours to turn. If you find one false, say at which input.
  Laid BY PROGRAM, IN A SANDBOX (cutbox-rows.mjs): the forced cells as the released guide's own fill.sh prints them over the translation 931e5ff5418b5f65… (all of the seat's roots in one cut). By AI agents, Wed Nov 11 2026. No macro, syntax, notation, axiom, sorry.
-/
import Derived.Test.YtbbpianfoimejaaChecked
import GoSem.Claim
import GoSem.ClaimJoined
import GoSem.ClaimMapViews
import Derived.JoinedTies
import Derived.KernelRfl
namespace Go.Proofs.Ytbbpianfoimejaa
/- THE CELL 'sum', in the pinned program and in every row, IS THE sha256 OF THE DUMP (.gsa) THAT YtbbpianfoimejaaProg.lean LOADS. Nothing in Lean hashes anything: it is a label: what it is worth is what the hold of that sum in a sandbox is worth. -/
noncomputable def Try.pinned : Pinned := { name := "ytbbpianfoimejaa", sum := "931e5ff5418b5f65727aa5c16367efe898306eb83d33d51b952b17c4fdbc0b99", checked := Try.checked }
namespace Rows
def none {H : Type} : Left H := { results := [], args := [] }

/-- 'laws.FnExactNetWithout': WHATEVER THE INPUT: true; the input reads as it did. -/
def fnExactNetWithoutSpec : ChangeSpec := { name := "fnExactNetWithout", fn := fun _ => fun
  | [d1, d2, d3] => { results := [.lit (.bool true)], args := [d1, d2, d3] }
  | _ => none }
def fnExactNetWithoutRow : OpenClaim := { program := "ytbbpianfoimejaa", sum := "931e5ff5418b5f65727aa5c16367efe898306eb83d33d51b952b17c4fdbc0b99", func := "loop.example/levellingnet/laws.FnExactNetWithout", spec := "fnExactNetWithout", apart := false }
def FnExactNetWithoutSaid : Prop := fnExactNetWithoutRow.holds Try.pinned (OpenSpec.ofChange fnExactNetWithoutSpec)

/-- ITS FALSE NEIGHBOUR: 'it returns false'. Refute it at one input. -/
def fnExactNetWithoutWrong : ChangeSpec := { name := "fnExactNetWithout", fn := fun _ => fun
  | [d1, d2, d3] => { results := [.lit (.bool false)], args := [d1, d2, d3] }
  | _ => none }
def FnExactNetWithoutWrongFalsely : Prop := fnExactNetWithoutRow.holds Try.pinned (OpenSpec.ofChange fnExactNetWithoutWrong)

/-- 'laws.FnExactAdjustTry': WHATEVER THE INPUT: true; the input reads as it did. -/
def fnExactAdjustTrySpec : ChangeSpec := { name := "fnExactAdjustTry", fn := fun _ => fun
  | [d1, d2, d3] => { results := [.lit (.bool true)], args := [d1, d2, d3] }
  | _ => none }
def fnExactAdjustTryRow : OpenClaim := { program := "ytbbpianfoimejaa", sum := "931e5ff5418b5f65727aa5c16367efe898306eb83d33d51b952b17c4fdbc0b99", func := "loop.example/levellingnet/laws.FnExactAdjustTry", spec := "fnExactAdjustTry", apart := false }
def FnExactAdjustTrySaid : Prop := fnExactAdjustTryRow.holds Try.pinned (OpenSpec.ofChange fnExactAdjustTrySpec)

/-- ITS FALSE NEIGHBOUR: 'it returns false'. Refute it at one input. -/
def fnExactAdjustTryWrong : ChangeSpec := { name := "fnExactAdjustTry", fn := fun _ => fun
  | [d1, d2, d3] => { results := [.lit (.bool false)], args := [d1, d2, d3] }
  | _ => none }
def FnExactAdjustTryWrongFalsely : Prop := fnExactAdjustTryRow.holds Try.pinned (OpenSpec.ofChange fnExactAdjustTryWrong)

/-- 'laws.FnExactNetSource': WHATEVER THE INPUT: true; the input reads as it did. -/
def fnExactNetSourceSpec : ChangeSpec := { name := "fnExactNetSource", fn := fun _ => fun
  | [d1, d2] => { results := [.lit (.bool true)], args := [d1, d2] }
  | _ => none }
def fnExactNetSourceRow : OpenClaim := { program := "ytbbpianfoimejaa", sum := "931e5ff5418b5f65727aa5c16367efe898306eb83d33d51b952b17c4fdbc0b99", func := "loop.example/levellingnet/laws.FnExactNetSource", spec := "fnExactNetSource", apart := false }
def FnExactNetSourceSaid : Prop := fnExactNetSourceRow.holds Try.pinned (OpenSpec.ofChange fnExactNetSourceSpec)

/-- ITS FALSE NEIGHBOUR: 'it returns false'. Refute it at one input. -/
def fnExactNetSourceWrong : ChangeSpec := { name := "fnExactNetSource", fn := fun _ => fun
  | [d1, d2] => { results := [.lit (.bool false)], args := [d1, d2] }
  | _ => none }
def FnExactNetSourceWrongFalsely : Prop := fnExactNetSourceRow.holds Try.pinned (OpenSpec.ofChange fnExactNetSourceWrong)

/-- 'laws.FnExactNetMerge': WHATEVER THE INPUT: true; the input reads as it did. -/
def fnExactNetMergeSpec : ChangeSpec := { name := "fnExactNetMerge", fn := fun _ => fun
  | [d1, d2, d3] => { results := [.lit (.bool true)], args := [d1, d2, d3] }
  | _ => none }
def fnExactNetMergeRow : OpenClaim := { program := "ytbbpianfoimejaa", sum := "931e5ff5418b5f65727aa5c16367efe898306eb83d33d51b952b17c4fdbc0b99", func := "loop.example/levellingnet/laws.FnExactNetMerge", spec := "fnExactNetMerge", unfollowed := true, recurses := true, apart := false }
def FnExactNetMergeSaid : Prop := fnExactNetMergeRow.holds Try.pinned (OpenSpec.ofChange fnExactNetMergeSpec)

/-- ITS FALSE NEIGHBOUR: 'it returns false'. Refute it at one input. -/
def fnExactNetMergeWrong : ChangeSpec := { name := "fnExactNetMerge", fn := fun _ => fun
  | [d1, d2, d3] => { results := [.lit (.bool false)], args := [d1, d2, d3] }
  | _ => none }
def FnExactNetMergeWrongFalsely : Prop := fnExactNetMergeRow.holds Try.pinned (OpenSpec.ofChange fnExactNetMergeWrong)

/-- 'laws.FnSourceBack': WHATEVER THE INPUT: true; the input reads as it did. -/
def fnSourceBackSpec : ChangeSpec := { name := "fnSourceBack", fn := fun _ => fun
  | [d] => { results := [.lit (.bool true)], args := [d] }
  | _ => none }
def fnSourceBackRow : OpenClaim := { program := "ytbbpianfoimejaa", sum := "931e5ff5418b5f65727aa5c16367efe898306eb83d33d51b952b17c4fdbc0b99", func := "loop.example/levellingnet/laws.FnSourceBack", spec := "fnSourceBack", apart := false }
def FnSourceBackSaid : Prop := fnSourceBackRow.holds Try.pinned (OpenSpec.ofChange fnSourceBackSpec)

/-- ITS FALSE NEIGHBOUR: 'it returns false'. Refute it at one input. -/
def fnSourceBackWrong : ChangeSpec := { name := "fnSourceBack", fn := fun _ => fun
  | [d] => { results := [.lit (.bool false)], args := [d] }
  | _ => none }
def FnSourceBackWrongFalsely : Prop := fnSourceBackRow.holds Try.pinned (OpenSpec.ofChange fnSourceBackWrong)

/-- 'laws.FnTreesMerge': WHATEVER THE INPUT: true; the input reads as it did. -/
def fnTreesMergeSpec : ChangeSpec := { name := "fnTreesMerge", fn := fun _ => fun
  | [d1, d2] => { results := [.lit (.bool true)], args := [d1, d2] }
  | _ => none }
def fnTreesMergeRow : OpenClaim := { program := "ytbbpianfoimejaa", sum := "931e5ff5418b5f65727aa5c16367efe898306eb83d33d51b952b17c4fdbc0b99", func := "loop.example/levellingnet/laws.FnTreesMerge", spec := "fnTreesMerge", unfollowed := true, recurses := true, apart := false }
def FnTreesMergeSaid : Prop := fnTreesMergeRow.holds Try.pinned (OpenSpec.ofChange fnTreesMergeSpec)

/-- ITS FALSE NEIGHBOUR: 'it returns false'. Refute it at one input. -/
def fnTreesMergeWrong : ChangeSpec := { name := "fnTreesMerge", fn := fun _ => fun
  | [d1, d2] => { results := [.lit (.bool false)], args := [d1, d2] }
  | _ => none }
def FnTreesMergeWrongFalsely : Prop := fnTreesMergeRow.holds Try.pinned (OpenSpec.ofChange fnTreesMergeWrong)

/- THE SECOND FORM. 'bulk': how many values and letters a reading holds, each counted each time it is reached (what is shared counts as often as it is met; a slice's spare places count too). A statement '..UptoSaid' is the law's where the arguments, and the package variables that the reading takes, are together of bulk at most 1048576: NARROWER than '..Said'. Prove '..Said' where nothing that the law and all that it calls make is longer than what came in: it says more and counts as full. Else prove '..UptoSaid'. A law counts once. -/
mutual
def uptoBulk {H : Type} : DataW H → Nat
  | .lit (.string bytes) => bytes.length + 1
  | .lit _ => 1
  | .nil => 1
  | .ptr d => uptoBulk d + 1
  | .slice elems spare => uptoBulkAll elems + uptoBulkAll spare + 1
  | .agg parts => uptoBulkAll parts + 1
  | .iface _ d => uptoBulk d + 1
  | .map entries => uptoBulkEntries entries + 1
  | .held _ => 1
def uptoBulkAll {H : Type} : List (DataW H) → Nat
  | [] => 0
  | d :: r => uptoBulk d + uptoBulkAll r
def uptoBulkEntries {H : Type} : List (Lit × DataW H) → Nat
  | [] => 0
  | x :: r => uptoBulkEntry x + uptoBulkEntries r
def uptoBulkEntry {H : Type} : Lit × DataW H → Nat
  | (.string bytes, d) => bytes.length + uptoBulk d + 1
  | (_, d) => uptoBulk d + 1
 end
def uptoSmall : (H : Type) → List (DataW H) → Bool := fun _ ds => decide (uptoBulkAll ds ≤ 1048576)
def OpenSpec.upto (s : _root_.Go.ChangeSpec) : _root_.Go.OpenSpec := { _root_.Go.OpenSpec.ofChange s with cond := some uptoSmall }

/-- 'laws.FnExactNetWithout', WHERE WHAT IT READS IS OF BULK AT MOST 1048576: true; the input reads as it did. -/
def fnExactNetWithoutUptoRow : OpenClaim := { program := "ytbbpianfoimejaa", sum := "931e5ff5418b5f65727aa5c16367efe898306eb83d33d51b952b17c4fdbc0b99", func := "loop.example/levellingnet/laws.FnExactNetWithout", spec := "fnExactNetWithout", apart := false, narrowed := true }
def FnExactNetWithoutUptoSaid : Prop := fnExactNetWithoutUptoRow.holds Try.pinned (OpenSpec.upto fnExactNetWithoutSpec)

/-- 'laws.FnExactAdjustTry', WHERE WHAT IT READS IS OF BULK AT MOST 1048576: true; the input reads as it did. -/
def fnExactAdjustTryUptoRow : OpenClaim := { program := "ytbbpianfoimejaa", sum := "931e5ff5418b5f65727aa5c16367efe898306eb83d33d51b952b17c4fdbc0b99", func := "loop.example/levellingnet/laws.FnExactAdjustTry", spec := "fnExactAdjustTry", apart := false, narrowed := true }
def FnExactAdjustTryUptoSaid : Prop := fnExactAdjustTryUptoRow.holds Try.pinned (OpenSpec.upto fnExactAdjustTrySpec)

/-- 'laws.FnExactNetSource', WHERE WHAT IT READS IS OF BULK AT MOST 1048576: true; the input reads as it did. -/
def fnExactNetSourceUptoRow : OpenClaim := { program := "ytbbpianfoimejaa", sum := "931e5ff5418b5f65727aa5c16367efe898306eb83d33d51b952b17c4fdbc0b99", func := "loop.example/levellingnet/laws.FnExactNetSource", spec := "fnExactNetSource", apart := false, narrowed := true }
def FnExactNetSourceUptoSaid : Prop := fnExactNetSourceUptoRow.holds Try.pinned (OpenSpec.upto fnExactNetSourceSpec)

/-- 'laws.FnExactNetMerge', WHERE WHAT IT READS IS OF BULK AT MOST 1048576: true; the input reads as it did. -/
def fnExactNetMergeUptoRow : OpenClaim := { program := "ytbbpianfoimejaa", sum := "931e5ff5418b5f65727aa5c16367efe898306eb83d33d51b952b17c4fdbc0b99", func := "loop.example/levellingnet/laws.FnExactNetMerge", spec := "fnExactNetMerge", unfollowed := true, recurses := true, apart := false, narrowed := true }
def FnExactNetMergeUptoSaid : Prop := fnExactNetMergeUptoRow.holds Try.pinned (OpenSpec.upto fnExactNetMergeSpec)

/-- 'laws.FnSourceBack', WHERE WHAT IT READS IS OF BULK AT MOST 1048576: true; the input reads as it did. -/
def fnSourceBackUptoRow : OpenClaim := { program := "ytbbpianfoimejaa", sum := "931e5ff5418b5f65727aa5c16367efe898306eb83d33d51b952b17c4fdbc0b99", func := "loop.example/levellingnet/laws.FnSourceBack", spec := "fnSourceBack", apart := false, narrowed := true }
def FnSourceBackUptoSaid : Prop := fnSourceBackUptoRow.holds Try.pinned (OpenSpec.upto fnSourceBackSpec)

/-- 'laws.FnTreesMerge', WHERE WHAT IT READS IS OF BULK AT MOST 1048576: true; the input reads as it did. -/
def fnTreesMergeUptoRow : OpenClaim := { program := "ytbbpianfoimejaa", sum := "931e5ff5418b5f65727aa5c16367efe898306eb83d33d51b952b17c4fdbc0b99", func := "loop.example/levellingnet/laws.FnTreesMerge", spec := "fnTreesMerge", unfollowed := true, recurses := true, apart := false, narrowed := true }
def FnTreesMergeUptoSaid : Prop := fnTreesMergeUptoRow.holds Try.pinned (OpenSpec.upto fnTreesMergeSpec)

end Rows
end Go.Proofs.Ytbbpianfoimejaa
