/-
  No cell of these rows narrows 'for every input' (looked for: loops, veiled, ifaces, maps, wideKeys, modest, calm, conditions, laid).
  DERIVED. THE GIVEN ROWS OF THIS SEAT. 8 by the template 'for every input the law returns true; each argument reads behind the call as it read before'; 0 by the template 'total and deterministic' (their statements: YtakeanehgfbbaaaTotals.lean).
  GIVEN WITH THE SEED: the statements are not yours to turn. If you find one false, say at which input.
  Laid BY PROGRAM, IN A SANDBOX (cutbox-rows.mjs): the forced cells as the released guide's own fill.sh prints them over the translation 4fa22e490b918d56… (all of the seat's roots in one cut). By AI agents, Wed Nov 11 2026. No macro, syntax, notation, axiom, sorry.
-/
import Derived.Test.YtakeanehgfbbaaaChecked
import GoSem.Claim
import GoSem.ClaimJoined
import GoSem.ClaimMapViews
import Derived.JoinedTies
import Derived.KernelRfl
namespace Go.Proofs.Ytakeanehgfbbaaa
/- THE CELL 'sum', in the pinned program and in every row, IS THE sha256 OF THE DUMP (.gsa) THAT YtakeanehgfbbaaaProg.lean LOADS. Nothing in Lean hashes anything: it is a label: what it is worth is what the hold of that sum in a sandbox is worth. -/
noncomputable def Try.pinned : Pinned := { name := "ytakeanehgfbbaaa", sum := "4fa22e490b918d5648701816f1687d1036ee3e69e7863dc896efca402ab5ac86", checked := Try.checked }
namespace Rows
def none {H : Type} : Left H := { results := [], args := [] }

/-- 'laws.FnExactDetOf': WHATEVER THE INPUT: true; the input reads as it did. -/
def fnExactDetOfSpec : ChangeSpec := { name := "fnExactDetOf", fn := fun _ => fun
  | [d] => { results := [.lit (.bool true)], args := [d] }
  | _ => none }
def fnExactDetOfRow : OpenClaim := { program := "ytakeanehgfbbaaa", sum := "4fa22e490b918d5648701816f1687d1036ee3e69e7863dc896efca402ab5ac86", func := "loop.example/g01226/laws.FnExactDetOf", spec := "fnExactDetOf", apart := false }
def FnExactDetOfSaid : Prop := fnExactDetOfRow.holds Try.pinned (OpenSpec.ofChange fnExactDetOfSpec)

/-- ITS FALSE NEIGHBOUR: 'it returns false'. Refute it at one input. -/
def fnExactDetOfWrong : ChangeSpec := { name := "fnExactDetOf", fn := fun _ => fun
  | [d] => { results := [.lit (.bool false)], args := [d] }
  | _ => none }
def FnExactDetOfWrongFalsely : Prop := fnExactDetOfRow.holds Try.pinned (OpenSpec.ofChange fnExactDetOfWrong)

/-- 'laws.FnExactTraceOf': WHATEVER THE INPUT: true; the input reads as it did. -/
def fnExactTraceOfSpec : ChangeSpec := { name := "fnExactTraceOf", fn := fun _ => fun
  | [d] => { results := [.lit (.bool true)], args := [d] }
  | _ => none }
def fnExactTraceOfRow : OpenClaim := { program := "ytakeanehgfbbaaa", sum := "4fa22e490b918d5648701816f1687d1036ee3e69e7863dc896efca402ab5ac86", func := "loop.example/g01226/laws.FnExactTraceOf", spec := "fnExactTraceOf", apart := false }
def FnExactTraceOfSaid : Prop := fnExactTraceOfRow.holds Try.pinned (OpenSpec.ofChange fnExactTraceOfSpec)

/-- ITS FALSE NEIGHBOUR: 'it returns false'. Refute it at one input. -/
def fnExactTraceOfWrong : ChangeSpec := { name := "fnExactTraceOf", fn := fun _ => fun
  | [d] => { results := [.lit (.bool false)], args := [d] }
  | _ => none }
def FnExactTraceOfWrongFalsely : Prop := fnExactTraceOfRow.holds Try.pinned (OpenSpec.ofChange fnExactTraceOfWrong)

/-- 'laws.FnExactStepsToDouble': WHATEVER THE INPUT: true; the input reads as it did. -/
def fnExactStepsToDoubleSpec : ChangeSpec := { name := "fnExactStepsToDouble", fn := fun _ => fun
  | [d] => { results := [.lit (.bool true)], args := [d] }
  | _ => none }
def fnExactStepsToDoubleRow : OpenClaim := { program := "ytakeanehgfbbaaa", sum := "4fa22e490b918d5648701816f1687d1036ee3e69e7863dc896efca402ab5ac86", func := "loop.example/g01226/laws.FnExactStepsToDouble", spec := "fnExactStepsToDouble", apart := false }
def FnExactStepsToDoubleSaid : Prop := fnExactStepsToDoubleRow.holds Try.pinned (OpenSpec.ofChange fnExactStepsToDoubleSpec)

/-- ITS FALSE NEIGHBOUR: 'it returns false'. Refute it at one input. -/
def fnExactStepsToDoubleWrong : ChangeSpec := { name := "fnExactStepsToDouble", fn := fun _ => fun
  | [d] => { results := [.lit (.bool false)], args := [d] }
  | _ => none }
def FnExactStepsToDoubleWrongFalsely : Prop := fnExactStepsToDoubleRow.holds Try.pinned (OpenSpec.ofChange fnExactStepsToDoubleWrong)

/-- 'laws.FnExactGrowthsOf': WHATEVER THE INPUT: true; the input reads as it did. -/
def fnExactGrowthsOfSpec : ChangeSpec := { name := "fnExactGrowthsOf", fn := fun _ => fun
  | [d] => { results := [.lit (.bool true)], args := [d] }
  | _ => none }
def fnExactGrowthsOfRow : OpenClaim := { program := "ytakeanehgfbbaaa", sum := "4fa22e490b918d5648701816f1687d1036ee3e69e7863dc896efca402ab5ac86", func := "loop.example/g01226/laws.FnExactGrowthsOf", spec := "fnExactGrowthsOf", apart := false }
def FnExactGrowthsOfSaid : Prop := fnExactGrowthsOfRow.holds Try.pinned (OpenSpec.ofChange fnExactGrowthsOfSpec)

/-- ITS FALSE NEIGHBOUR: 'it returns false'. Refute it at one input. -/
def fnExactGrowthsOfWrong : ChangeSpec := { name := "fnExactGrowthsOf", fn := fun _ => fun
  | [d] => { results := [.lit (.bool false)], args := [d] }
  | _ => none }
def FnExactGrowthsOfWrongFalsely : Prop := fnExactGrowthsOfRow.holds Try.pinned (OpenSpec.ofChange fnExactGrowthsOfWrong)

/-- 'laws.FnExactLaneSum': WHATEVER THE INPUT: true; the input reads as it did. -/
def fnExactLaneSumSpec : ChangeSpec := { name := "fnExactLaneSum", fn := fun _ => fun
  | [d] => { results := [.lit (.bool true)], args := [d] }
  | _ => none }
def fnExactLaneSumRow : OpenClaim := { program := "ytakeanehgfbbaaa", sum := "4fa22e490b918d5648701816f1687d1036ee3e69e7863dc896efca402ab5ac86", func := "loop.example/g01226/laws.FnExactLaneSum", spec := "fnExactLaneSum", apart := false }
def FnExactLaneSumSaid : Prop := fnExactLaneSumRow.holds Try.pinned (OpenSpec.ofChange fnExactLaneSumSpec)

/-- ITS FALSE NEIGHBOUR: 'it returns false'. Refute it at one input. -/
def fnExactLaneSumWrong : ChangeSpec := { name := "fnExactLaneSum", fn := fun _ => fun
  | [d] => { results := [.lit (.bool false)], args := [d] }
  | _ => none }
def FnExactLaneSumWrongFalsely : Prop := fnExactLaneSumRow.holds Try.pinned (OpenSpec.ofChange fnExactLaneSumWrong)

/-- 'laws.FnExactFieldDot': WHATEVER THE INPUT: true; the input reads as it did. -/
def fnExactFieldDotSpec : ChangeSpec := { name := "fnExactFieldDot", fn := fun _ => fun
  | [d1, d2, d3] => { results := [.lit (.bool true)], args := [d1, d2, d3] }
  | _ => none }
def fnExactFieldDotRow : OpenClaim := { program := "ytakeanehgfbbaaa", sum := "4fa22e490b918d5648701816f1687d1036ee3e69e7863dc896efca402ab5ac86", func := "loop.example/g01226/laws.FnExactFieldDot", spec := "fnExactFieldDot", apart := false }
def FnExactFieldDotSaid : Prop := fnExactFieldDotRow.holds Try.pinned (OpenSpec.ofChange fnExactFieldDotSpec)

/-- ITS FALSE NEIGHBOUR: 'it returns false'. Refute it at one input. -/
def fnExactFieldDotWrong : ChangeSpec := { name := "fnExactFieldDot", fn := fun _ => fun
  | [d1, d2, d3] => { results := [.lit (.bool false)], args := [d1, d2, d3] }
  | _ => none }
def FnExactFieldDotWrongFalsely : Prop := fnExactFieldDotRow.holds Try.pinned (OpenSpec.ofChange fnExactFieldDotWrong)

/-- 'laws.FnExactTimesMatrix': WHATEVER THE INPUT: true; the input reads as it did. -/
def fnExactTimesMatrixSpec : ChangeSpec := { name := "fnExactTimesMatrix", fn := fun _ => fun
  | [d1, d2] => { results := [.lit (.bool true)], args := [d1, d2] }
  | _ => none }
def fnExactTimesMatrixRow : OpenClaim := { program := "ytakeanehgfbbaaa", sum := "4fa22e490b918d5648701816f1687d1036ee3e69e7863dc896efca402ab5ac86", func := "loop.example/g01226/laws.FnExactTimesMatrix", spec := "fnExactTimesMatrix", apart := false }
def FnExactTimesMatrixSaid : Prop := fnExactTimesMatrixRow.holds Try.pinned (OpenSpec.ofChange fnExactTimesMatrixSpec)

/-- ITS FALSE NEIGHBOUR: 'it returns false'. Refute it at one input. -/
def fnExactTimesMatrixWrong : ChangeSpec := { name := "fnExactTimesMatrix", fn := fun _ => fun
  | [d1, d2] => { results := [.lit (.bool false)], args := [d1, d2] }
  | _ => none }
def FnExactTimesMatrixWrongFalsely : Prop := fnExactTimesMatrixRow.holds Try.pinned (OpenSpec.ofChange fnExactTimesMatrixWrong)

/-- 'laws.FnExactLaneShared': WHATEVER THE INPUT: true; the input reads as it did. -/
def fnExactLaneSharedSpec : ChangeSpec := { name := "fnExactLaneShared", fn := fun _ => fun
  | [d1, d2] => { results := [.lit (.bool true)], args := [d1, d2] }
  | _ => none }
def fnExactLaneSharedRow : OpenClaim := { program := "ytakeanehgfbbaaa", sum := "4fa22e490b918d5648701816f1687d1036ee3e69e7863dc896efca402ab5ac86", func := "loop.example/g01226/laws.FnExactLaneShared", spec := "fnExactLaneShared", apart := false }
def FnExactLaneSharedSaid : Prop := fnExactLaneSharedRow.holds Try.pinned (OpenSpec.ofChange fnExactLaneSharedSpec)

/-- ITS FALSE NEIGHBOUR: 'it returns false'. Refute it at one input. -/
def fnExactLaneSharedWrong : ChangeSpec := { name := "fnExactLaneShared", fn := fun _ => fun
  | [d1, d2] => { results := [.lit (.bool false)], args := [d1, d2] }
  | _ => none }
def FnExactLaneSharedWrongFalsely : Prop := fnExactLaneSharedRow.holds Try.pinned (OpenSpec.ofChange fnExactLaneSharedWrong)

/- THE SECOND FORM. 'bulk': how many values and letters a reading holds, each counted each time it is reached (what is shared counts as often as it is met; a slice's spare places count too). A statement '..UptoSaid' is the law's where the arguments, and the package variables that the reading takes, are together of bulk at most 1048576: NARROWER than '..Said'. Prove '..Said' where nothing that the law and all that it calls make is longer than what came in: it says more and counts as full. Else prove '..UptoSaid'. A law counts once. -/
mutual
def uptoBulk {H : Type} : DataW H → Nat
  | .lit (.string bytes) => bytes.length + 1
  | .lit _ => 1
  | .nil => 1
  | .ptr d => uptoBulk d + 1
  | .slice elems spare => uptoBulkAll elems + uptoBulkAll spare + 1
  | .agg parts => uptoBulkAll parts + 1
  | .iface _ d => uptoBulk d + 1
  | .map entries => uptoBulkEntries entries + 1
  | .held _ => 1
def uptoBulkAll {H : Type} : List (DataW H) → Nat
  | [] => 0
  | d :: r => uptoBulk d + uptoBulkAll r
def uptoBulkEntries {H : Type} : List (Lit × DataW H) → Nat
  | [] => 0
  | x :: r => uptoBulkEntry x + uptoBulkEntries r
def uptoBulkEntry {H : Type} : Lit × DataW H → Nat
  | (.string bytes, d) => bytes.length + uptoBulk d + 1
  | (_, d) => uptoBulk d + 1
 end
def uptoSmall : (H : Type) → List (DataW H) → Bool := fun _ ds => decide (uptoBulkAll ds ≤ 1048576)
def OpenSpec.upto (s : _root_.Go.ChangeSpec) : _root_.Go.OpenSpec := { _root_.Go.OpenSpec.ofChange s with cond := some uptoSmall }

/-- 'laws.FnExactDetOf', WHERE WHAT IT READS IS OF BULK AT MOST 1048576: true; the input reads as it did. -/
def fnExactDetOfUptoRow : OpenClaim := { program := "ytakeanehgfbbaaa", sum := "4fa22e490b918d5648701816f1687d1036ee3e69e7863dc896efca402ab5ac86", func := "loop.example/g01226/laws.FnExactDetOf", spec := "fnExactDetOf", apart := false, narrowed := true }
def FnExactDetOfUptoSaid : Prop := fnExactDetOfUptoRow.holds Try.pinned (OpenSpec.upto fnExactDetOfSpec)

/-- 'laws.FnExactTraceOf', WHERE WHAT IT READS IS OF BULK AT MOST 1048576: true; the input reads as it did. -/
def fnExactTraceOfUptoRow : OpenClaim := { program := "ytakeanehgfbbaaa", sum := "4fa22e490b918d5648701816f1687d1036ee3e69e7863dc896efca402ab5ac86", func := "loop.example/g01226/laws.FnExactTraceOf", spec := "fnExactTraceOf", apart := false, narrowed := true }
def FnExactTraceOfUptoSaid : Prop := fnExactTraceOfUptoRow.holds Try.pinned (OpenSpec.upto fnExactTraceOfSpec)

/-- 'laws.FnExactStepsToDouble', WHERE WHAT IT READS IS OF BULK AT MOST 1048576: true; the input reads as it did. -/
def fnExactStepsToDoubleUptoRow : OpenClaim := { program := "ytakeanehgfbbaaa", sum := "4fa22e490b918d5648701816f1687d1036ee3e69e7863dc896efca402ab5ac86", func := "loop.example/g01226/laws.FnExactStepsToDouble", spec := "fnExactStepsToDouble", apart := false, narrowed := true }
def FnExactStepsToDoubleUptoSaid : Prop := fnExactStepsToDoubleUptoRow.holds Try.pinned (OpenSpec.upto fnExactStepsToDoubleSpec)

/-- 'laws.FnExactGrowthsOf', WHERE WHAT IT READS IS OF BULK AT MOST 1048576: true; the input reads as it did. -/
def fnExactGrowthsOfUptoRow : OpenClaim := { program := "ytakeanehgfbbaaa", sum := "4fa22e490b918d5648701816f1687d1036ee3e69e7863dc896efca402ab5ac86", func := "loop.example/g01226/laws.FnExactGrowthsOf", spec := "fnExactGrowthsOf", apart := false, narrowed := true }
def FnExactGrowthsOfUptoSaid : Prop := fnExactGrowthsOfUptoRow.holds Try.pinned (OpenSpec.upto fnExactGrowthsOfSpec)

/-- 'laws.FnExactLaneSum', WHERE WHAT IT READS IS OF BULK AT MOST 1048576: true; the input reads as it did. -/
def fnExactLaneSumUptoRow : OpenClaim := { program := "ytakeanehgfbbaaa", sum := "4fa22e490b918d5648701816f1687d1036ee3e69e7863dc896efca402ab5ac86", func := "loop.example/g01226/laws.FnExactLaneSum", spec := "fnExactLaneSum", apart := false, narrowed := true }
def FnExactLaneSumUptoSaid : Prop := fnExactLaneSumUptoRow.holds Try.pinned (OpenSpec.upto fnExactLaneSumSpec)

/-- 'laws.FnExactFieldDot', WHERE WHAT IT READS IS OF BULK AT MOST 1048576: true; the input reads as it did. -/
def fnExactFieldDotUptoRow : OpenClaim := { program := "ytakeanehgfbbaaa", sum := "4fa22e490b918d5648701816f1687d1036ee3e69e7863dc896efca402ab5ac86", func := "loop.example/g01226/laws.FnExactFieldDot", spec := "fnExactFieldDot", apart := false, narrowed := true }
def FnExactFieldDotUptoSaid : Prop := fnExactFieldDotUptoRow.holds Try.pinned (OpenSpec.upto fnExactFieldDotSpec)

/-- 'laws.FnExactTimesMatrix', WHERE WHAT IT READS IS OF BULK AT MOST 1048576: true; the input reads as it did. -/
def fnExactTimesMatrixUptoRow : OpenClaim := { program := "ytakeanehgfbbaaa", sum := "4fa22e490b918d5648701816f1687d1036ee3e69e7863dc896efca402ab5ac86", func := "loop.example/g01226/laws.FnExactTimesMatrix", spec := "fnExactTimesMatrix", apart := false, narrowed := true }
def FnExactTimesMatrixUptoSaid : Prop := fnExactTimesMatrixUptoRow.holds Try.pinned (OpenSpec.upto fnExactTimesMatrixSpec)

/-- 'laws.FnExactLaneShared', WHERE WHAT IT READS IS OF BULK AT MOST 1048576: true; the input reads as it did. -/
def fnExactLaneSharedUptoRow : OpenClaim := { program := "ytakeanehgfbbaaa", sum := "4fa22e490b918d5648701816f1687d1036ee3e69e7863dc896efca402ab5ac86", func := "loop.example/g01226/laws.FnExactLaneShared", spec := "fnExactLaneShared", apart := false, narrowed := true }
def FnExactLaneSharedUptoSaid : Prop := fnExactLaneSharedUptoRow.holds Try.pinned (OpenSpec.upto fnExactLaneSharedSpec)

end Rows
end Go.Proofs.Ytakeanehgfbbaaa
