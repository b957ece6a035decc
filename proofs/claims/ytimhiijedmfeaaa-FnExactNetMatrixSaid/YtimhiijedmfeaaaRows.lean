/-
  No cell of these rows narrows 'for every input' (looked for: loops, veiled, ifaces, maps, wideKeys, modest, calm, conditions, laid).
  DERIVED. THE GIVEN ROWS OF THIS SEAT. 7 by the template 'for every input the law returns true; each argument reads behind the call as it read before'; 0 by the template 'total and deterministic' (their statements: YtimhiijedmfeaaaTotals.lean).
  GIVEN WITH THE SEED: the statements are not yours to turn. If you find one false, say at which input.
  Laid BY PROGRAM, IN A SANDBOX (cutbox-rows.mjs): the forced cells as the released guide's own fill.sh prints them over the translation 68fb214ab40458ae… (all of the seat's roots in one cut). By AI agents, Wed Nov 11 2026. No macro, syntax, notation, axiom, sorry.
-/
import Derived.Test.YtimhiijedmfeaaaChecked
import GoSem.Claim
import GoSem.ClaimJoined
import GoSem.ClaimMapViews
import Derived.JoinedTies
import Derived.KernelRfl
namespace Go.Proofs.Ytimhiijedmfeaaa
/- THE CELL 'sum', in the pinned program and in every row, IS THE sha256 OF THE DUMP (.gsa) THAT YtimhiijedmfeaaaProg.lean LOADS. Nothing in Lean hashes anything: it is a label: what it is worth is what the hold of that sum in a sandbox is worth. -/
noncomputable def Try.pinned : Pinned := { name := "ytimhiijedmfeaaa", sum := "68fb214ab40458ae565ac5e12aa8eee4f32647813285e6f1b7bc04f471c6cd98", checked := Try.checked }
namespace Rows
def none {H : Type} : Left H := { results := [], args := [] }

/-- 'laws.FnExactMatValid': WHATEVER THE INPUT: true; the input reads as it did. -/
def fnExactMatValidSpec : ChangeSpec := { name := "fnExactMatValid", fn := fun _ => fun
  | [d] => { results := [.lit (.bool true)], args := [d] }
  | _ => none }
def fnExactMatValidRow : OpenClaim := { program := "ytimhiijedmfeaaa", sum := "68fb214ab40458ae565ac5e12aa8eee4f32647813285e6f1b7bc04f471c6cd98", func := "loop.example/levellingnet/laws.FnExactMatValid", spec := "fnExactMatValid", apart := false }
def FnExactMatValidSaid : Prop := fnExactMatValidRow.holds Try.pinned (OpenSpec.ofChange fnExactMatValidSpec)

/-- ITS FALSE NEIGHBOUR: 'it returns false'. Refute it at one input. -/
def fnExactMatValidWrong : ChangeSpec := { name := "fnExactMatValid", fn := fun _ => fun
  | [d] => { results := [.lit (.bool false)], args := [d] }
  | _ => none }
def FnExactMatValidWrongFalsely : Prop := fnExactMatValidRow.holds Try.pinned (OpenSpec.ofChange fnExactMatValidWrong)

/-- 'laws.FnExactMatApply': WHATEVER THE INPUT: true; the input reads as it did. -/
def fnExactMatApplySpec : ChangeSpec := { name := "fnExactMatApply", fn := fun _ => fun
  | [d1, d2] => { results := [.lit (.bool true)], args := [d1, d2] }
  | _ => none }
def fnExactMatApplyRow : OpenClaim := { program := "ytimhiijedmfeaaa", sum := "68fb214ab40458ae565ac5e12aa8eee4f32647813285e6f1b7bc04f471c6cd98", func := "loop.example/levellingnet/laws.FnExactMatApply", spec := "fnExactMatApply", apart := false }
def FnExactMatApplySaid : Prop := fnExactMatApplyRow.holds Try.pinned (OpenSpec.ofChange fnExactMatApplySpec)

/-- ITS FALSE NEIGHBOUR: 'it returns false'. Refute it at one input. -/
def fnExactMatApplyWrong : ChangeSpec := { name := "fnExactMatApply", fn := fun _ => fun
  | [d1, d2] => { results := [.lit (.bool false)], args := [d1, d2] }
  | _ => none }
def FnExactMatApplyWrongFalsely : Prop := fnExactMatApplyRow.holds Try.pinned (OpenSpec.ofChange fnExactMatApplyWrong)

/-- 'laws.FnExactMatTurn': WHATEVER THE INPUT: true; the input reads as it did. -/
def fnExactMatTurnSpec : ChangeSpec := { name := "fnExactMatTurn", fn := fun _ => fun
  | [d] => { results := [.lit (.bool true)], args := [d] }
  | _ => none }
def fnExactMatTurnRow : OpenClaim := { program := "ytimhiijedmfeaaa", sum := "68fb214ab40458ae565ac5e12aa8eee4f32647813285e6f1b7bc04f471c6cd98", func := "loop.example/levellingnet/laws.FnExactMatTurn", spec := "fnExactMatTurn", apart := false }
def FnExactMatTurnSaid : Prop := fnExactMatTurnRow.holds Try.pinned (OpenSpec.ofChange fnExactMatTurnSpec)

/-- ITS FALSE NEIGHBOUR: 'it returns false'. Refute it at one input. -/
def fnExactMatTurnWrong : ChangeSpec := { name := "fnExactMatTurn", fn := fun _ => fun
  | [d] => { results := [.lit (.bool false)], args := [d] }
  | _ => none }
def FnExactMatTurnWrongFalsely : Prop := fnExactMatTurnRow.holds Try.pinned (OpenSpec.ofChange fnExactMatTurnWrong)

/-- 'laws.FnExactMatTimes': WHATEVER THE INPUT: true; the input reads as it did. -/
def fnExactMatTimesSpec : ChangeSpec := { name := "fnExactMatTimes", fn := fun _ => fun
  | [d1, d2] => { results := [.lit (.bool true)], args := [d1, d2] }
  | _ => none }
def fnExactMatTimesRow : OpenClaim := { program := "ytimhiijedmfeaaa", sum := "68fb214ab40458ae565ac5e12aa8eee4f32647813285e6f1b7bc04f471c6cd98", func := "loop.example/levellingnet/laws.FnExactMatTimes", spec := "fnExactMatTimes", apart := false }
def FnExactMatTimesSaid : Prop := fnExactMatTimesRow.holds Try.pinned (OpenSpec.ofChange fnExactMatTimesSpec)

/-- ITS FALSE NEIGHBOUR: 'it returns false'. Refute it at one input. -/
def fnExactMatTimesWrong : ChangeSpec := { name := "fnExactMatTimes", fn := fun _ => fun
  | [d1, d2] => { results := [.lit (.bool false)], args := [d1, d2] }
  | _ => none }
def FnExactMatTimesWrongFalsely : Prop := fnExactMatTimesRow.holds Try.pinned (OpenSpec.ofChange fnExactMatTimesWrong)

/-- 'laws.FnApplySum': WHATEVER THE INPUT: true; the input reads as it did. -/
def fnApplySumSpec : ChangeSpec := { name := "fnApplySum", fn := fun _ => fun
  | [d1, d2] => { results := [.lit (.bool true)], args := [d1, d2] }
  | _ => none }
def fnApplySumRow : OpenClaim := { program := "ytimhiijedmfeaaa", sum := "68fb214ab40458ae565ac5e12aa8eee4f32647813285e6f1b7bc04f471c6cd98", func := "loop.example/levellingnet/laws.FnApplySum", spec := "fnApplySum", apart := false }
def FnApplySumSaid : Prop := fnApplySumRow.holds Try.pinned (OpenSpec.ofChange fnApplySumSpec)

/-- ITS FALSE NEIGHBOUR: 'it returns false'. Refute it at one input. -/
def fnApplySumWrong : ChangeSpec := { name := "fnApplySum", fn := fun _ => fun
  | [d1, d2] => { results := [.lit (.bool false)], args := [d1, d2] }
  | _ => none }
def FnApplySumWrongFalsely : Prop := fnApplySumRow.holds Try.pinned (OpenSpec.ofChange fnApplySumWrong)

/-- 'laws.FnExactNetMatrix': WHATEVER THE INPUT: true; the input reads as it did. -/
def fnExactNetMatrixSpec : ChangeSpec := { name := "fnExactNetMatrix", fn := fun _ => fun
  | [d1, d2] => { results := [.lit (.bool true)], args := [d1, d2] }
  | _ => none }
def fnExactNetMatrixRow : OpenClaim := { program := "ytimhiijedmfeaaa", sum := "68fb214ab40458ae565ac5e12aa8eee4f32647813285e6f1b7bc04f471c6cd98", func := "loop.example/levellingnet/laws.FnExactNetMatrix", spec := "fnExactNetMatrix", apart := false }
def FnExactNetMatrixSaid : Prop := fnExactNetMatrixRow.holds Try.pinned (OpenSpec.ofChange fnExactNetMatrixSpec)

/-- ITS FALSE NEIGHBOUR: 'it returns false'. Refute it at one input. -/
def fnExactNetMatrixWrong : ChangeSpec := { name := "fnExactNetMatrix", fn := fun _ => fun
  | [d1, d2] => { results := [.lit (.bool false)], args := [d1, d2] }
  | _ => none }
def FnExactNetMatrixWrongFalsely : Prop := fnExactNetMatrixRow.holds Try.pinned (OpenSpec.ofChange fnExactNetMatrixWrong)

/-- 'laws.FnSource': WHATEVER THE INPUT: true; the input reads as it did. -/
def fnSourceSpec : ChangeSpec := { name := "fnSource", fn := fun _ => fun
  | [d1, d2] => { results := [.lit (.bool true)], args := [d1, d2] }
  | _ => none }
def fnSourceRow : OpenClaim := { program := "ytimhiijedmfeaaa", sum := "68fb214ab40458ae565ac5e12aa8eee4f32647813285e6f1b7bc04f471c6cd98", func := "loop.example/levellingnet/laws.FnSource", spec := "fnSource", apart := false }
def FnSourceSaid : Prop := fnSourceRow.holds Try.pinned (OpenSpec.ofChange fnSourceSpec)

/-- ITS FALSE NEIGHBOUR: 'it returns false'. Refute it at one input. -/
def fnSourceWrong : ChangeSpec := { name := "fnSource", fn := fun _ => fun
  | [d1, d2] => { results := [.lit (.bool false)], args := [d1, d2] }
  | _ => none }
def FnSourceWrongFalsely : Prop := fnSourceRow.holds Try.pinned (OpenSpec.ofChange fnSourceWrong)

/- THE SECOND FORM. 'bulk': how many values and letters a reading holds, each counted each time it is reached (what is shared counts as often as it is met; a slice's spare places count too). A statement '..UptoSaid' is the law's where the arguments, and the package variables that the reading takes, are together of bulk at most 1048576: NARROWER than '..Said'. Prove '..Said' where nothing that the law and all that it calls make is longer than what came in: it says more and counts as full. Else prove '..UptoSaid'. A law counts once. -/
mutual
def uptoBulk {H : Type} : DataW H → Nat
  | .lit (.string bytes) => bytes.length + 1
  | .lit _ => 1
  | .nil => 1
  | .ptr d => uptoBulk d + 1
  | .slice elems spare => uptoBulkAll elems + uptoBulkAll spare + 1
  | .agg parts => uptoBulkAll parts + 1
  | .iface _ d => uptoBulk d + 1
  | .map entries => uptoBulkEntries entries + 1
  | .held _ => 1
def uptoBulkAll {H : Type} : List (DataW H) → Nat
  | [] => 0
  | d :: r => uptoBulk d + uptoBulkAll r
def uptoBulkEntries {H : Type} : List (Lit × DataW H) → Nat
  | [] => 0
  | x :: r => uptoBulkEntry x + uptoBulkEntries r
def uptoBulkEntry {H : Type} : Lit × DataW H → Nat
  | (.string bytes, d) => bytes.length + uptoBulk d + 1
  | (_, d) => uptoBulk d + 1
 end
def uptoSmall : (H : Type) → List (DataW H) → Bool := fun _ ds => decide (uptoBulkAll ds ≤ 1048576)
def OpenSpec.upto (s : _root_.Go.ChangeSpec) : _root_.Go.OpenSpec := { _root_.Go.OpenSpec.ofChange s with cond := some uptoSmall }

/-- 'laws.FnExactMatValid', WHERE WHAT IT READS IS OF BULK AT MOST 1048576: true; the input reads as it did. -/
def fnExactMatValidUptoRow : OpenClaim := { program := "ytimhiijedmfeaaa", sum := "68fb214ab40458ae565ac5e12aa8eee4f32647813285e6f1b7bc04f471c6cd98", func := "loop.example/levellingnet/laws.FnExactMatValid", spec := "fnExactMatValid", apart := false, narrowed := true }
def FnExactMatValidUptoSaid : Prop := fnExactMatValidUptoRow.holds Try.pinned (OpenSpec.upto fnExactMatValidSpec)

/-- 'laws.FnExactMatApply', WHERE WHAT IT READS IS OF BULK AT MOST 1048576: true; the input reads as it did. -/
def fnExactMatApplyUptoRow : OpenClaim := { program := "ytimhiijedmfeaaa", sum := "68fb214ab40458ae565ac5e12aa8eee4f32647813285e6f1b7bc04f471c6cd98", func := "loop.example/levellingnet/laws.FnExactMatApply", spec := "fnExactMatApply", apart := false, narrowed := true }
def FnExactMatApplyUptoSaid : Prop := fnExactMatApplyUptoRow.holds Try.pinned (OpenSpec.upto fnExactMatApplySpec)

/-- 'laws.FnExactMatTurn', WHERE WHAT IT READS IS OF BULK AT MOST 1048576: true; the input reads as it did. -/
def fnExactMatTurnUptoRow : OpenClaim := { program := "ytimhiijedmfeaaa", sum := "68fb214ab40458ae565ac5e12aa8eee4f32647813285e6f1b7bc04f471c6cd98", func := "loop.example/levellingnet/laws.FnExactMatTurn", spec := "fnExactMatTurn", apart := false, narrowed := true }
def FnExactMatTurnUptoSaid : Prop := fnExactMatTurnUptoRow.holds Try.pinned (OpenSpec.upto fnExactMatTurnSpec)

/-- 'laws.FnExactMatTimes', WHERE WHAT IT READS IS OF BULK AT MOST 1048576: true; the input reads as it did. -/
def fnExactMatTimesUptoRow : OpenClaim := { program := "ytimhiijedmfeaaa", sum := "68fb214ab40458ae565ac5e12aa8eee4f32647813285e6f1b7bc04f471c6cd98", func := "loop.example/levellingnet/laws.FnExactMatTimes", spec := "fnExactMatTimes", apart := false, narrowed := true }
def FnExactMatTimesUptoSaid : Prop := fnExactMatTimesUptoRow.holds Try.pinned (OpenSpec.upto fnExactMatTimesSpec)

/-- 'laws.FnApplySum', WHERE WHAT IT READS IS OF BULK AT MOST 1048576: true; the input reads as it did. -/
def fnApplySumUptoRow : OpenClaim := { program := "ytimhiijedmfeaaa", sum := "68fb214ab40458ae565ac5e12aa8eee4f32647813285e6f1b7bc04f471c6cd98", func := "loop.example/levellingnet/laws.FnApplySum", spec := "fnApplySum", apart := false, narrowed := true }
def FnApplySumUptoSaid : Prop := fnApplySumUptoRow.holds Try.pinned (OpenSpec.upto fnApplySumSpec)

/-- 'laws.FnExactNetMatrix', WHERE WHAT IT READS IS OF BULK AT MOST 1048576: true; the input reads as it did. -/
def fnExactNetMatrixUptoRow : OpenClaim := { program := "ytimhiijedmfeaaa", sum := "68fb214ab40458ae565ac5e12aa8eee4f32647813285e6f1b7bc04f471c6cd98", func := "loop.example/levellingnet/laws.FnExactNetMatrix", spec := "fnExactNetMatrix", apart := false, narrowed := true }
def FnExactNetMatrixUptoSaid : Prop := fnExactNetMatrixUptoRow.holds Try.pinned (OpenSpec.upto fnExactNetMatrixSpec)

/-- 'laws.FnSource', WHERE WHAT IT READS IS OF BULK AT MOST 1048576: true; the input reads as it did. -/
def fnSourceUptoRow : OpenClaim := { program := "ytimhiijedmfeaaa", sum := "68fb214ab40458ae565ac5e12aa8eee4f32647813285e6f1b7bc04f471c6cd98", func := "loop.example/levellingnet/laws.FnSource", spec := "fnSource", apart := false, narrowed := true }
def FnSourceUptoSaid : Prop := fnSourceUptoRow.holds Try.pinned (OpenSpec.upto fnSourceSpec)

end Rows
end Go.Proofs.Ytimhiijedmfeaaa
