/-
  No cell of these rows narrows 'for every input' (looked for: loops, veiled, ifaces, maps, wideKeys, modest, calm, conditions, laid).
  DERIVED. THE GIVEN ROWS OF THIS SEAT. 8 by the template 'for every input the law returns true; each argument reads behind the call as it read before'; 0 by the template 'total and deterministic' (their statements: YtnonlibekcacgaaTotals.lean).
  GIVEN WITH THE SEED: the statements are not yours to turn. If you find one false, say at which input.
  Laid BY PROGRAM, IN A SANDBOX (cutbox-rows.mjs): the forced cells as the released guide's own fill.sh prints them over the translation c3b2b68fc6de13bd… (all of the seat's roots in one cut). By AI agents, Wed Nov 11 2026. No macro, syntax, notation, axiom, sorry.
-/
import Derived.Test.YtnonlibekcacgaaChecked
import GoSem.Claim
import GoSem.ClaimJoined
import GoSem.ClaimMapViews
import Derived.JoinedTies
import Derived.KernelRfl
namespace Go.Proofs.Ytnonlibekcacgaa
/- THE CELL 'sum', in the pinned program and in every row, IS THE sha256 OF THE DUMP (.gsa) THAT YtnonlibekcacgaaProg.lean LOADS. Nothing in Lean hashes anything: it is a label: what it is worth is what the hold of that sum in a sandbox is worth. -/
noncomputable def Try.pinned : Pinned := { name := "ytnonlibekcacgaa", sum := "c3b2b68fc6de13bd96b7a23a3ab77929b892137ccf7470e96e53f7dc38d08d63", checked := Try.checked }
namespace Rows
def none {H : Type} : Left H := { results := [], args := [] }

/-- 'laws.FnExactModeNumber': WHATEVER THE INPUT: true; the input reads as it did. -/
def fnExactModeNumberSpec : ChangeSpec := { name := "fnExactModeNumber", fn := fun _ => fun
  | [d1, d2, d3] => { results := [.lit (.bool true)], args := [d1, d2, d3] }
  | _ => none }
def fnExactModeNumberRow : OpenClaim := { program := "ytnonlibekcacgaa", sum := "c3b2b68fc6de13bd96b7a23a3ab77929b892137ccf7470e96e53f7dc38d08d63", func := "loop.example/g01226/laws.FnExactModeNumber", spec := "fnExactModeNumber", inPlace := ["math.Float64frombits", "math.Float64bits", "math.archTrunc"], apart := false }
def FnExactModeNumberSaid : Prop := fnExactModeNumberRow.holds Try.pinned (OpenSpec.ofChange fnExactModeNumberSpec)

/-- ITS FALSE NEIGHBOUR: 'it returns false'. Refute it at one input. -/
def fnExactModeNumberWrong : ChangeSpec := { name := "fnExactModeNumber", fn := fun _ => fun
  | [d1, d2, d3] => { results := [.lit (.bool false)], args := [d1, d2, d3] }
  | _ => none }
def FnExactModeNumberWrongFalsely : Prop := fnExactModeNumberRow.holds Try.pinned (OpenSpec.ofChange fnExactModeNumberWrong)

/-- 'laws.FnExactWaveField': WHATEVER THE INPUT: true; the input reads as it did. -/
def fnExactWaveFieldSpec : ChangeSpec := { name := "fnExactWaveField", fn := fun _ => fun
  | [d1, d2, d3, d4] => { results := [.lit (.bool true)], args := [d1, d2, d3, d4] }
  | _ => none }
def fnExactWaveFieldRow : OpenClaim := { program := "ytnonlibekcacgaa", sum := "c3b2b68fc6de13bd96b7a23a3ab77929b892137ccf7470e96e53f7dc38d08d63", func := "loop.example/g01226/laws.FnExactWaveField", spec := "fnExactWaveField", inPlace := ["math.Float64frombits", "math.Float64bits", "math.archTrunc"], apart := false }
def FnExactWaveFieldSaid : Prop := fnExactWaveFieldRow.holds Try.pinned (OpenSpec.ofChange fnExactWaveFieldSpec)

/-- ITS FALSE NEIGHBOUR: 'it returns false'. Refute it at one input. -/
def fnExactWaveFieldWrong : ChangeSpec := { name := "fnExactWaveField", fn := fun _ => fun
  | [d1, d2, d3, d4] => { results := [.lit (.bool false)], args := [d1, d2, d3, d4] }
  | _ => none }
def FnExactWaveFieldWrongFalsely : Prop := fnExactWaveFieldRow.holds Try.pinned (OpenSpec.ofChange fnExactWaveFieldWrong)

/-- 'laws.FnExactFillBeam': WHATEVER THE INPUT: true; the input reads as it did. -/
def fnExactFillBeamSpec : ChangeSpec := { name := "fnExactFillBeam", fn := fun _ => fun
  | [d1, d2, d3] => { results := [.lit (.bool true)], args := [d1, d2, d3] }
  | _ => none }
def fnExactFillBeamRow : OpenClaim := { program := "ytnonlibekcacgaa", sum := "c3b2b68fc6de13bd96b7a23a3ab77929b892137ccf7470e96e53f7dc38d08d63", func := "loop.example/g01226/laws.FnExactFillBeam", spec := "fnExactFillBeam", inPlace := ["math.Float64frombits", "math.Float64bits", "math.archTrunc"], apart := false }
def FnExactFillBeamSaid : Prop := fnExactFillBeamRow.holds Try.pinned (OpenSpec.ofChange fnExactFillBeamSpec)

/-- ITS FALSE NEIGHBOUR: 'it returns false'. Refute it at one input. -/
def fnExactFillBeamWrong : ChangeSpec := { name := "fnExactFillBeam", fn := fun _ => fun
  | [d1, d2, d3] => { results := [.lit (.bool false)], args := [d1, d2, d3] }
  | _ => none }
def FnExactFillBeamWrongFalsely : Prop := fnExactFillBeamRow.holds Try.pinned (OpenSpec.ofChange fnExactFillBeamWrong)

/-- 'laws.FnExactWaveParticles': WHATEVER THE INPUT: true; the input reads as it did. -/
def fnExactWaveParticlesSpec : ChangeSpec := { name := "fnExactWaveParticles", fn := fun _ => fun
  | [d1, d2, d3, d4, d5] => { results := [.lit (.bool true)], args := [d1, d2, d3, d4, d5] }
  | _ => none }
def fnExactWaveParticlesRow : OpenClaim := { program := "ytnonlibekcacgaa", sum := "c3b2b68fc6de13bd96b7a23a3ab77929b892137ccf7470e96e53f7dc38d08d63", func := "loop.example/g01226/laws.FnExactWaveParticles", spec := "fnExactWaveParticles", inPlace := ["math.Float64frombits", "math.Float64bits", "math.archTrunc"], apart := false }
def FnExactWaveParticlesSaid : Prop := fnExactWaveParticlesRow.holds Try.pinned (OpenSpec.ofChange fnExactWaveParticlesSpec)

/-- ITS FALSE NEIGHBOUR: 'it returns false'. Refute it at one input. -/
def fnExactWaveParticlesWrong : ChangeSpec := { name := "fnExactWaveParticles", fn := fun _ => fun
  | [d1, d2, d3, d4, d5] => { results := [.lit (.bool false)], args := [d1, d2, d3, d4, d5] }
  | _ => none }
def FnExactWaveParticlesWrongFalsely : Prop := fnExactWaveParticlesRow.holds Try.pinned (OpenSpec.ofChange fnExactWaveParticlesWrong)

/-- 'laws.FnExactSpectrumOf': WHATEVER THE INPUT: true; the input reads as it did. -/
def fnExactSpectrumOfSpec : ChangeSpec := { name := "fnExactSpectrumOf", fn := fun _ => fun
  | [d] => { results := [.lit (.bool true)], args := [d] }
  | _ => none }
def fnExactSpectrumOfRow : OpenClaim := { program := "ytnonlibekcacgaa", sum := "c3b2b68fc6de13bd96b7a23a3ab77929b892137ccf7470e96e53f7dc38d08d63", func := "loop.example/g01226/laws.FnExactSpectrumOf", spec := "fnExactSpectrumOf", inPlace := ["math.Float32frombits", "math.Float64frombits", "math.Float64bits", "math.archTrunc"], apart := false }
def FnExactSpectrumOfSaid : Prop := fnExactSpectrumOfRow.holds Try.pinned (OpenSpec.ofChange fnExactSpectrumOfSpec)

/-- ITS FALSE NEIGHBOUR: 'it returns false'. Refute it at one input. -/
def fnExactSpectrumOfWrong : ChangeSpec := { name := "fnExactSpectrumOf", fn := fun _ => fun
  | [d] => { results := [.lit (.bool false)], args := [d] }
  | _ => none }
def FnExactSpectrumOfWrongFalsely : Prop := fnExactSpectrumOfRow.holds Try.pinned (OpenSpec.ofChange fnExactSpectrumOfWrong)

/-- 'laws.FnExactModeOf': WHATEVER THE INPUT: true; the input reads as it did. -/
def fnExactModeOfSpec : ChangeSpec := { name := "fnExactModeOf", fn := fun _ => fun
  | [d1, d2, d3] => { results := [.lit (.bool true)], args := [d1, d2, d3] }
  | _ => none }
def fnExactModeOfRow : OpenClaim := { program := "ytnonlibekcacgaa", sum := "c3b2b68fc6de13bd96b7a23a3ab77929b892137ccf7470e96e53f7dc38d08d63", func := "loop.example/g01226/laws.FnExactModeOf", spec := "fnExactModeOf", inPlace := ["math.Float32frombits", "math.Float64frombits", "math.Float64bits", "math.archTrunc"], apart := false }
def FnExactModeOfSaid : Prop := fnExactModeOfRow.holds Try.pinned (OpenSpec.ofChange fnExactModeOfSpec)

/-- ITS FALSE NEIGHBOUR: 'it returns false'. Refute it at one input. -/
def fnExactModeOfWrong : ChangeSpec := { name := "fnExactModeOf", fn := fun _ => fun
  | [d1, d2, d3] => { results := [.lit (.bool false)], args := [d1, d2, d3] }
  | _ => none }
def FnExactModeOfWrongFalsely : Prop := fnExactModeOfRow.holds Try.pinned (OpenSpec.ofChange fnExactModeOfWrong)

/-- 'laws.FnExactTuneOf': WHATEVER THE INPUT: true; the input reads as it did. -/
def fnExactTuneOfSpec : ChangeSpec := { name := "fnExactTuneOf", fn := fun _ => fun
  | [d] => { results := [.lit (.bool true)], args := [d] }
  | _ => none }
def fnExactTuneOfRow : OpenClaim := { program := "ytnonlibekcacgaa", sum := "c3b2b68fc6de13bd96b7a23a3ab77929b892137ccf7470e96e53f7dc38d08d63", func := "loop.example/g01226/laws.FnExactTuneOf", spec := "fnExactTuneOf", inPlace := ["math.sqrt", "math.Float64frombits", "math.Float64bits"], unfollowed := true, recurses := true, apart := false }
def FnExactTuneOfSaid : Prop := fnExactTuneOfRow.holds Try.pinned (OpenSpec.ofChange fnExactTuneOfSpec)

/-- ITS FALSE NEIGHBOUR: 'it returns false'. Refute it at one input. -/
def fnExactTuneOfWrong : ChangeSpec := { name := "fnExactTuneOf", fn := fun _ => fun
  | [d] => { results := [.lit (.bool false)], args := [d] }
  | _ => none }
def FnExactTuneOfWrongFalsely : Prop := fnExactTuneOfRow.holds Try.pinned (OpenSpec.ofChange fnExactTuneOfWrong)

/-- 'laws.FnExactSlideOf': WHATEVER THE INPUT: true; the input reads as it did. -/
def fnExactSlideOfSpec : ChangeSpec := { name := "fnExactSlideOf", fn := fun _ => fun
  | [d1, d2, d3, d4] => { results := [.lit (.bool true)], args := [d1, d2, d3, d4] }
  | _ => none }
def fnExactSlideOfRow : OpenClaim := { program := "ytnonlibekcacgaa", sum := "c3b2b68fc6de13bd96b7a23a3ab77929b892137ccf7470e96e53f7dc38d08d63", func := "loop.example/g01226/laws.FnExactSlideOf", spec := "fnExactSlideOf", inPlace := ["math.Float32frombits", "math.Float64frombits", "math.Float64bits", "math.sqrt", "math.archTrunc"], apart := false }
def FnExactSlideOfSaid : Prop := fnExactSlideOfRow.holds Try.pinned (OpenSpec.ofChange fnExactSlideOfSpec)

/-- ITS FALSE NEIGHBOUR: 'it returns false'. Refute it at one input. -/
def fnExactSlideOfWrong : ChangeSpec := { name := "fnExactSlideOf", fn := fun _ => fun
  | [d1, d2, d3, d4] => { results := [.lit (.bool false)], args := [d1, d2, d3, d4] }
  | _ => none }
def FnExactSlideOfWrongFalsely : Prop := fnExactSlideOfRow.holds Try.pinned (OpenSpec.ofChange fnExactSlideOfWrong)

/- THE SECOND FORM. 'bulk': how many values and letters a reading holds, each counted each time it is reached (what is shared counts as often as it is met; a slice's spare places count too). A statement '..UptoSaid' is the law's where the arguments, and the package variables that the reading takes, are together of bulk at most 1048576: NARROWER than '..Said'. Prove '..Said' where nothing that the law and all that it calls make is longer than what came in: it says more and counts as full. Else prove '..UptoSaid'. A law counts once. -/
mutual
def uptoBulk {H : Type} : DataW H → Nat
  | .lit (.string bytes) => bytes.length + 1
  | .lit _ => 1
  | .nil => 1
  | .ptr d => uptoBulk d + 1
  | .slice elems spare => uptoBulkAll elems + uptoBulkAll spare + 1
  | .agg parts => uptoBulkAll parts + 1
  | .iface _ d => uptoBulk d + 1
  | .map entries => uptoBulkEntries entries + 1
  | .held _ => 1
def uptoBulkAll {H : Type} : List (DataW H) → Nat
  | [] => 0
  | d :: r => uptoBulk d + uptoBulkAll r
def uptoBulkEntries {H : Type} : List (Lit × DataW H) → Nat
  | [] => 0
  | x :: r => uptoBulkEntry x + uptoBulkEntries r
def uptoBulkEntry {H : Type} : Lit × DataW H → Nat
  | (.string bytes, d) => bytes.length + uptoBulk d + 1
  | (_, d) => uptoBulk d + 1
 end
def uptoSmall : (H : Type) → List (DataW H) → Bool := fun _ ds => decide (uptoBulkAll ds ≤ 1048576)
def OpenSpec.upto (s : _root_.Go.ChangeSpec) : _root_.Go.OpenSpec := { _root_.Go.OpenSpec.ofChange s with cond := some uptoSmall }

/-- 'laws.FnExactModeNumber', WHERE WHAT IT READS IS OF BULK AT MOST 1048576: true; the input reads as it did. -/
def fnExactModeNumberUptoRow : OpenClaim := { program := "ytnonlibekcacgaa", sum := "c3b2b68fc6de13bd96b7a23a3ab77929b892137ccf7470e96e53f7dc38d08d63", func := "loop.example/g01226/laws.FnExactModeNumber", spec := "fnExactModeNumber", inPlace := ["math.Float64frombits", "math.Float64bits", "math.archTrunc"], apart := false, narrowed := true }
def FnExactModeNumberUptoSaid : Prop := fnExactModeNumberUptoRow.holds Try.pinned (OpenSpec.upto fnExactModeNumberSpec)

/-- 'laws.FnExactWaveField', WHERE WHAT IT READS IS OF BULK AT MOST 1048576: true; the input reads as it did. -/
def fnExactWaveFieldUptoRow : OpenClaim := { program := "ytnonlibekcacgaa", sum := "c3b2b68fc6de13bd96b7a23a3ab77929b892137ccf7470e96e53f7dc38d08d63", func := "loop.example/g01226/laws.FnExactWaveField", spec := "fnExactWaveField", inPlace := ["math.Float64frombits", "math.Float64bits", "math.archTrunc"], apart := false, narrowed := true }
def FnExactWaveFieldUptoSaid : Prop := fnExactWaveFieldUptoRow.holds Try.pinned (OpenSpec.upto fnExactWaveFieldSpec)

/-- 'laws.FnExactFillBeam', WHERE WHAT IT READS IS OF BULK AT MOST 1048576: true; the input reads as it did. -/
def fnExactFillBeamUptoRow : OpenClaim := { program := "ytnonlibekcacgaa", sum := "c3b2b68fc6de13bd96b7a23a3ab77929b892137ccf7470e96e53f7dc38d08d63", func := "loop.example/g01226/laws.FnExactFillBeam", spec := "fnExactFillBeam", inPlace := ["math.Float64frombits", "math.Float64bits", "math.archTrunc"], apart := false, narrowed := true }
def FnExactFillBeamUptoSaid : Prop := fnExactFillBeamUptoRow.holds Try.pinned (OpenSpec.upto fnExactFillBeamSpec)

/-- 'laws.FnExactWaveParticles', WHERE WHAT IT READS IS OF BULK AT MOST 1048576: true; the input reads as it did. -/
def fnExactWaveParticlesUptoRow : OpenClaim := { program := "ytnonlibekcacgaa", sum := "c3b2b68fc6de13bd96b7a23a3ab77929b892137ccf7470e96e53f7dc38d08d63", func := "loop.example/g01226/laws.FnExactWaveParticles", spec := "fnExactWaveParticles", inPlace := ["math.Float64frombits", "math.Float64bits", "math.archTrunc"], apart := false, narrowed := true }
def FnExactWaveParticlesUptoSaid : Prop := fnExactWaveParticlesUptoRow.holds Try.pinned (OpenSpec.upto fnExactWaveParticlesSpec)

/-- 'laws.FnExactSpectrumOf', WHERE WHAT IT READS IS OF BULK AT MOST 1048576: true; the input reads as it did. -/
def fnExactSpectrumOfUptoRow : OpenClaim := { program := "ytnonlibekcacgaa", sum := "c3b2b68fc6de13bd96b7a23a3ab77929b892137ccf7470e96e53f7dc38d08d63", func := "loop.example/g01226/laws.FnExactSpectrumOf", spec := "fnExactSpectrumOf", inPlace := ["math.Float32frombits", "math.Float64frombits", "math.Float64bits", "math.archTrunc"], apart := false, narrowed := true }
def FnExactSpectrumOfUptoSaid : Prop := fnExactSpectrumOfUptoRow.holds Try.pinned (OpenSpec.upto fnExactSpectrumOfSpec)

/-- 'laws.FnExactModeOf', WHERE WHAT IT READS IS OF BULK AT MOST 1048576: true; the input reads as it did. -/
def fnExactModeOfUptoRow : OpenClaim := { program := "ytnonlibekcacgaa", sum := "c3b2b68fc6de13bd96b7a23a3ab77929b892137ccf7470e96e53f7dc38d08d63", func := "loop.example/g01226/laws.FnExactModeOf", spec := "fnExactModeOf", inPlace := ["math.Float32frombits", "math.Float64frombits", "math.Float64bits", "math.archTrunc"], apart := false, narrowed := true }
def FnExactModeOfUptoSaid : Prop := fnExactModeOfUptoRow.holds Try.pinned (OpenSpec.upto fnExactModeOfSpec)

/-- 'laws.FnExactTuneOf', WHERE WHAT IT READS IS OF BULK AT MOST 1048576: true; the input reads as it did. -/
def fnExactTuneOfUptoRow : OpenClaim := { program := "ytnonlibekcacgaa", sum := "c3b2b68fc6de13bd96b7a23a3ab77929b892137ccf7470e96e53f7dc38d08d63", func := "loop.example/g01226/laws.FnExactTuneOf", spec := "fnExactTuneOf", inPlace := ["math.sqrt", "math.Float64frombits", "math.Float64bits"], unfollowed := true, recurses := true, apart := false, narrowed := true }
def FnExactTuneOfUptoSaid : Prop := fnExactTuneOfUptoRow.holds Try.pinned (OpenSpec.upto fnExactTuneOfSpec)

/-- 'laws.FnExactSlideOf', WHERE WHAT IT READS IS OF BULK AT MOST 1048576: true; the input reads as it did. -/
def fnExactSlideOfUptoRow : OpenClaim := { program := "ytnonlibekcacgaa", sum := "c3b2b68fc6de13bd96b7a23a3ab77929b892137ccf7470e96e53f7dc38d08d63", func := "loop.example/g01226/laws.FnExactSlideOf", spec := "fnExactSlideOf", inPlace := ["math.Float32frombits", "math.Float64frombits", "math.Float64bits", "math.sqrt", "math.archTrunc"], apart := false, narrowed := true }
def FnExactSlideOfUptoSaid : Prop := fnExactSlideOfUptoRow.holds Try.pinned (OpenSpec.upto fnExactSlideOfSpec)

end Rows
end Go.Proofs.Ytnonlibekcacgaa
