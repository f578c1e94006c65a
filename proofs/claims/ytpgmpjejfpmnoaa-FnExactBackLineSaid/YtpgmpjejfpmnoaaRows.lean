/-
  No cell of these rows narrows 'for every input' (looked for: loops, veiled, ifaces, maps, wideKeys, modest, calm, conditions, laid).
  DERIVED. THE GIVEN ROWS OF THIS SEAT. 7 by the template 'for every input the law returns true; each argument reads behind the call as it read before'; 0 by the template 'total and deterministic' (their statements: YtpgmpjejfpmnoaaTotals.lean).
  GIVEN WITH THE SEED: the statements are not yours to turn. If you find one false, say at which input.
  Laid BY PROGRAM, IN A SANDBOX (cutbox-rows.mjs): the forced cells as the released guide's own fill.sh prints them over the translation 1c555c1b73bb8e33… (all of the seat's roots in one cut). By AI agents, Wed Nov 11 2026. No macro, syntax, notation, axiom, sorry.
-/
import Derived.Test.YtpgmpjejfpmnoaaChecked
import GoSem.Claim
import GoSem.ClaimJoined
import GoSem.ClaimMapViews
import Derived.JoinedTies
import Derived.KernelRfl
namespace Go.Proofs.Ytpgmpjejfpmnoaa
/- THE CELL 'sum', in the pinned program and in every row, IS THE sha256 OF THE DUMP (.gsa) THAT YtpgmpjejfpmnoaaProg.lean LOADS. Nothing in Lean hashes anything: it is a label: what it is worth is what the hold of that sum in a sandbox is worth. -/
noncomputable def Try.pinned : Pinned := { name := "ytpgmpjejfpmnoaa", sum := "1c555c1b73bb8e335340c41d1e120b74165b2c2c79b0093ac1b5bfe1c819a48e", checked := Try.checked }
namespace Rows
def none {H : Type} : Left H := { results := [], args := [] }

/-- 'laws.FnExactRowOf': WHATEVER THE INPUT: true; the input reads as it did. -/
def fnExactRowOfSpec : ChangeSpec := { name := "fnExactRowOf", fn := fun _ => fun
  | [d1, d2, d3] => { results := [.lit (.bool true)], args := [d1, d2, d3] }
  | _ => none }
def fnExactRowOfRow : OpenClaim := { program := "ytpgmpjejfpmnoaa", sum := "1c555c1b73bb8e335340c41d1e120b74165b2c2c79b0093ac1b5bfe1c819a48e", func := "loop.example/g01226/laws.FnExactRowOf", spec := "fnExactRowOf", apart := false }
def FnExactRowOfSaid : Prop := fnExactRowOfRow.holds Try.pinned (OpenSpec.ofChange fnExactRowOfSpec)

/-- ITS FALSE NEIGHBOUR: 'it returns false'. Refute it at one input. -/
def fnExactRowOfWrong : ChangeSpec := { name := "fnExactRowOf", fn := fun _ => fun
  | [d1, d2, d3] => { results := [.lit (.bool false)], args := [d1, d2, d3] }
  | _ => none }
def FnExactRowOfWrongFalsely : Prop := fnExactRowOfRow.holds Try.pinned (OpenSpec.ofChange fnExactRowOfWrong)

/-- 'laws.FnExactRowsFor': WHATEVER THE INPUT: true; the input reads as it did. -/
def fnExactRowsForSpec : ChangeSpec := { name := "fnExactRowsFor", fn := fun _ => fun
  | [d1, d2] => { results := [.lit (.bool true)], args := [d1, d2] }
  | _ => none }
def fnExactRowsForRow : OpenClaim := { program := "ytpgmpjejfpmnoaa", sum := "1c555c1b73bb8e335340c41d1e120b74165b2c2c79b0093ac1b5bfe1c819a48e", func := "loop.example/g01226/laws.FnExactRowsFor", spec := "fnExactRowsFor", apart := false }
def FnExactRowsForSaid : Prop := fnExactRowsForRow.holds Try.pinned (OpenSpec.ofChange fnExactRowsForSpec)

/-- ITS FALSE NEIGHBOUR: 'it returns false'. Refute it at one input. -/
def fnExactRowsForWrong : ChangeSpec := { name := "fnExactRowsFor", fn := fun _ => fun
  | [d1, d2] => { results := [.lit (.bool false)], args := [d1, d2] }
  | _ => none }
def FnExactRowsForWrongFalsely : Prop := fnExactRowsForRow.holds Try.pinned (OpenSpec.ofChange fnExactRowsForWrong)

/-- 'laws.FnExactMeanRow': WHATEVER THE INPUT: true; the input reads as it did. -/
def fnExactMeanRowSpec : ChangeSpec := { name := "fnExactMeanRow", fn := fun _ => fun
  | [d1, d2] => { results := [.lit (.bool true)], args := [d1, d2] }
  | _ => none }
def fnExactMeanRowRow : OpenClaim := { program := "ytpgmpjejfpmnoaa", sum := "1c555c1b73bb8e335340c41d1e120b74165b2c2c79b0093ac1b5bfe1c819a48e", func := "loop.example/g01226/laws.FnExactMeanRow", spec := "fnExactMeanRow", apart := false }
def FnExactMeanRowSaid : Prop := fnExactMeanRowRow.holds Try.pinned (OpenSpec.ofChange fnExactMeanRowSpec)

/-- ITS FALSE NEIGHBOUR: 'it returns false'. Refute it at one input. -/
def fnExactMeanRowWrong : ChangeSpec := { name := "fnExactMeanRow", fn := fun _ => fun
  | [d1, d2] => { results := [.lit (.bool false)], args := [d1, d2] }
  | _ => none }
def FnExactMeanRowWrongFalsely : Prop := fnExactMeanRowRow.holds Try.pinned (OpenSpec.ofChange fnExactMeanRowWrong)

/-- 'laws.FnExactValidLine': WHATEVER THE INPUT: true; the input reads as it did. -/
def fnExactValidLineSpec : ChangeSpec := { name := "fnExactValidLine", fn := fun _ => fun
  | [d] => { results := [.lit (.bool true)], args := [d] }
  | _ => none }
def fnExactValidLineRow : OpenClaim := { program := "ytpgmpjejfpmnoaa", sum := "1c555c1b73bb8e335340c41d1e120b74165b2c2c79b0093ac1b5bfe1c819a48e", func := "loop.example/g01226/laws.FnExactValidLine", spec := "fnExactValidLine", unfollowed := true, recurses := true, apart := false }
def FnExactValidLineSaid : Prop := fnExactValidLineRow.holds Try.pinned (OpenSpec.ofChange fnExactValidLineSpec)

/-- ITS FALSE NEIGHBOUR: 'it returns false'. Refute it at one input. -/
def fnExactValidLineWrong : ChangeSpec := { name := "fnExactValidLine", fn := fun _ => fun
  | [d] => { results := [.lit (.bool false)], args := [d] }
  | _ => none }
def FnExactValidLineWrongFalsely : Prop := fnExactValidLineRow.holds Try.pinned (OpenSpec.ofChange fnExactValidLineWrong)

/-- 'laws.FnExactIsStable': WHATEVER THE INPUT: true; the input reads as it did. -/
def fnExactIsStableSpec : ChangeSpec := { name := "fnExactIsStable", fn := fun _ => fun
  | [d] => { results := [.lit (.bool true)], args := [d] }
  | _ => none }
def fnExactIsStableRow : OpenClaim := { program := "ytpgmpjejfpmnoaa", sum := "1c555c1b73bb8e335340c41d1e120b74165b2c2c79b0093ac1b5bfe1c819a48e", func := "loop.example/g01226/laws.FnExactIsStable", spec := "fnExactIsStable", inPlace := ["math.Float64bits", "math.Float64frombits"], unfollowed := true, recurses := true, apart := false }
def FnExactIsStableSaid : Prop := fnExactIsStableRow.holds Try.pinned (OpenSpec.ofChange fnExactIsStableSpec)

/-- ITS FALSE NEIGHBOUR: 'it returns false'. Refute it at one input. -/
def fnExactIsStableWrong : ChangeSpec := { name := "fnExactIsStable", fn := fun _ => fun
  | [d] => { results := [.lit (.bool false)], args := [d] }
  | _ => none }
def FnExactIsStableWrongFalsely : Prop := fnExactIsStableRow.holds Try.pinned (OpenSpec.ofChange fnExactIsStableWrong)

/-- 'laws.FnExactBackLine': WHATEVER THE INPUT: true; the input reads as it did. -/
def fnExactBackLineSpec : ChangeSpec := { name := "fnExactBackLine", fn := fun _ => fun
  | [d] => { results := [.lit (.bool true)], args := [d] }
  | _ => none }
def fnExactBackLineRow : OpenClaim := { program := "ytpgmpjejfpmnoaa", sum := "1c555c1b73bb8e335340c41d1e120b74165b2c2c79b0093ac1b5bfe1c819a48e", func := "loop.example/g01226/laws.FnExactBackLine", spec := "fnExactBackLine", unfollowed := true, recurses := true, apart := false }
def FnExactBackLineSaid : Prop := fnExactBackLineRow.holds Try.pinned (OpenSpec.ofChange fnExactBackLineSpec)

/-- ITS FALSE NEIGHBOUR: 'it returns false'. Refute it at one input. -/
def fnExactBackLineWrong : ChangeSpec := { name := "fnExactBackLine", fn := fun _ => fun
  | [d] => { results := [.lit (.bool false)], args := [d] }
  | _ => none }
def FnExactBackLineWrongFalsely : Prop := fnExactBackLineRow.holds Try.pinned (OpenSpec.ofChange fnExactBackLineWrong)

/-- 'laws.FnExactMatrixOf': WHATEVER THE INPUT: true; the input reads as it did. -/
def fnExactMatrixOfSpec : ChangeSpec := { name := "fnExactMatrixOf", fn := fun _ => fun
  | [d] => { results := [.lit (.bool true)], args := [d] }
  | _ => none }
def fnExactMatrixOfRow : OpenClaim := { program := "ytpgmpjejfpmnoaa", sum := "1c555c1b73bb8e335340c41d1e120b74165b2c2c79b0093ac1b5bfe1c819a48e", func := "loop.example/g01226/laws.FnExactMatrixOf", spec := "fnExactMatrixOf", unfollowed := true, recurses := true, apart := false }
def FnExactMatrixOfSaid : Prop := fnExactMatrixOfRow.holds Try.pinned (OpenSpec.ofChange fnExactMatrixOfSpec)

/-- ITS FALSE NEIGHBOUR: 'it returns false'. Refute it at one input. -/
def fnExactMatrixOfWrong : ChangeSpec := { name := "fnExactMatrixOf", fn := fun _ => fun
  | [d] => { results := [.lit (.bool false)], args := [d] }
  | _ => none }
def FnExactMatrixOfWrongFalsely : Prop := fnExactMatrixOfRow.holds Try.pinned (OpenSpec.ofChange fnExactMatrixOfWrong)

/- THE SECOND FORM. 'bulk': how many values and letters a reading holds, each counted each time it is reached (what is shared counts as often as it is met; a slice's spare places count too). A statement '..UptoSaid' is the law's where the arguments, and the package variables that the reading takes, are together of bulk at most 1048576: NARROWER than '..Said'. Prove '..Said' where nothing that the law and all that it calls make is longer than what came in: it says more and counts as full. Else prove '..UptoSaid'. A law counts once. -/
mutual
def uptoBulk {H : Type} : DataW H → Nat
  | .lit (.string bytes) => bytes.length + 1
  | .lit _ => 1
  | .nil => 1
  | .ptr d => uptoBulk d + 1
  | .slice elems spare => uptoBulkAll elems + uptoBulkAll spare + 1
  | .agg parts => uptoBulkAll parts + 1
  | .iface _ d => uptoBulk d + 1
  | .map entries => uptoBulkEntries entries + 1
  | .held _ => 1
def uptoBulkAll {H : Type} : List (DataW H) → Nat
  | [] => 0
  | d :: r => uptoBulk d + uptoBulkAll r
def uptoBulkEntries {H : Type} : List (Lit × DataW H) → Nat
  | [] => 0
  | x :: r => uptoBulkEntry x + uptoBulkEntries r
def uptoBulkEntry {H : Type} : Lit × DataW H → Nat
  | (.string bytes, d) => bytes.length + uptoBulk d + 1
  | (_, d) => uptoBulk d + 1
 end
def uptoSmall : (H : Type) → List (DataW H) → Bool := fun _ ds => decide (uptoBulkAll ds ≤ 1048576)
def OpenSpec.upto (s : _root_.Go.ChangeSpec) : _root_.Go.OpenSpec := { _root_.Go.OpenSpec.ofChange s with cond := some uptoSmall }

/-- 'laws.FnExactRowOf', WHERE WHAT IT READS IS OF BULK AT MOST 1048576: true; the input reads as it did. -/
def fnExactRowOfUptoRow : OpenClaim := { program := "ytpgmpjejfpmnoaa", sum := "1c555c1b73bb8e335340c41d1e120b74165b2c2c79b0093ac1b5bfe1c819a48e", func := "loop.example/g01226/laws.FnExactRowOf", spec := "fnExactRowOf", apart := false, narrowed := true }
def FnExactRowOfUptoSaid : Prop := fnExactRowOfUptoRow.holds Try.pinned (OpenSpec.upto fnExactRowOfSpec)

/-- 'laws.FnExactRowsFor', WHERE WHAT IT READS IS OF BULK AT MOST 1048576: true; the input reads as it did. -/
def fnExactRowsForUptoRow : OpenClaim := { program := "ytpgmpjejfpmnoaa", sum := "1c555c1b73bb8e335340c41d1e120b74165b2c2c79b0093ac1b5bfe1c819a48e", func := "loop.example/g01226/laws.FnExactRowsFor", spec := "fnExactRowsFor", apart := false, narrowed := true }
def FnExactRowsForUptoSaid : Prop := fnExactRowsForUptoRow.holds Try.pinned (OpenSpec.upto fnExactRowsForSpec)

/-- 'laws.FnExactMeanRow', WHERE WHAT IT READS IS OF BULK AT MOST 1048576: true; the input reads as it did. -/
def fnExactMeanRowUptoRow : OpenClaim := { program := "ytpgmpjejfpmnoaa", sum := "1c555c1b73bb8e335340c41d1e120b74165b2c2c79b0093ac1b5bfe1c819a48e", func := "loop.example/g01226/laws.FnExactMeanRow", spec := "fnExactMeanRow", apart := false, narrowed := true }
def FnExactMeanRowUptoSaid : Prop := fnExactMeanRowUptoRow.holds Try.pinned (OpenSpec.upto fnExactMeanRowSpec)

/-- 'laws.FnExactValidLine', WHERE WHAT IT READS IS OF BULK AT MOST 1048576: true; the input reads as it did. -/
def fnExactValidLineUptoRow : OpenClaim := { program := "ytpgmpjejfpmnoaa", sum := "1c555c1b73bb8e335340c41d1e120b74165b2c2c79b0093ac1b5bfe1c819a48e", func := "loop.example/g01226/laws.FnExactValidLine", spec := "fnExactValidLine", unfollowed := true, recurses := true, apart := false, narrowed := true }
def FnExactValidLineUptoSaid : Prop := fnExactValidLineUptoRow.holds Try.pinned (OpenSpec.upto fnExactValidLineSpec)

/-- 'laws.FnExactIsStable', WHERE WHAT IT READS IS OF BULK AT MOST 1048576: true; the input reads as it did. -/
def fnExactIsStableUptoRow : OpenClaim := { program := "ytpgmpjejfpmnoaa", sum := "1c555c1b73bb8e335340c41d1e120b74165b2c2c79b0093ac1b5bfe1c819a48e", func := "loop.example/g01226/laws.FnExactIsStable", spec := "fnExactIsStable", inPlace := ["math.Float64bits", "math.Float64frombits"], unfollowed := true, recurses := true, apart := false, narrowed := true }
def FnExactIsStableUptoSaid : Prop := fnExactIsStableUptoRow.holds Try.pinned (OpenSpec.upto fnExactIsStableSpec)

/-- 'laws.FnExactBackLine', WHERE WHAT IT READS IS OF BULK AT MOST 1048576: true; the input reads as it did. -/
def fnExactBackLineUptoRow : OpenClaim := { program := "ytpgmpjejfpmnoaa", sum := "1c555c1b73bb8e335340c41d1e120b74165b2c2c79b0093ac1b5bfe1c819a48e", func := "loop.example/g01226/laws.FnExactBackLine", spec := "fnExactBackLine", unfollowed := true, recurses := true, apart := false, narrowed := true }
def FnExactBackLineUptoSaid : Prop := fnExactBackLineUptoRow.holds Try.pinned (OpenSpec.upto fnExactBackLineSpec)

/-- 'laws.FnExactMatrixOf', WHERE WHAT IT READS IS OF BULK AT MOST 1048576: true; the input reads as it did. -/
def fnExactMatrixOfUptoRow : OpenClaim := { program := "ytpgmpjejfpmnoaa", sum := "1c555c1b73bb8e335340c41d1e120b74165b2c2c79b0093ac1b5bfe1c819a48e", func := "loop.example/g01226/laws.FnExactMatrixOf", spec := "fnExactMatrixOf", unfollowed := true, recurses := true, apart := false, narrowed := true }
def FnExactMatrixOfUptoSaid : Prop := fnExactMatrixOfUptoRow.holds Try.pinned (OpenSpec.upto fnExactMatrixOfSpec)

end Rows
end Go.Proofs.Ytpgmpjejfpmnoaa
