/-
  No cell of these rows narrows 'for every input' (looked for: loops, veiled, ifaces, maps, wideKeys, modest, calm, conditions, laid).
  DERIVED. THE GIVEN ROWS OF THIS SEAT. 5 by the template 'for every input the law returns true; each argument reads behind the call as it read before'; 0 by the template 'total and deterministic' (their statements: YtfehnjcefmdljabTotals.lean).
  GIVEN WITH THE SEED: the statements are not yours to turn. If you find one false, say at which input.
  Laid BY PROGRAM, IN A SANDBOX (cutbox-rows.mjs): the forced cells as the released guide's own fill.sh prints them over the translation ee3901c844f9b05e… (all of the seat's roots in one cut). By AI agents, Wed Nov 11 2026. No macro, syntax, notation, axiom, sorry.
-/
import Derived.Test.YtfehnjcefmdljabChecked
import GoSem.Claim
import GoSem.ClaimJoined
import GoSem.ClaimMapViews
import Derived.JoinedTies
import Derived.KernelRfl
namespace Go.Proofs.Ytfehnjcefmdljab
/- THE CELL 'sum', in the pinned program and in every row, IS THE sha256 OF THE DUMP (.gsa) THAT YtfehnjcefmdljabProg.lean LOADS. Nothing in Lean hashes anything: it is a label: what it is worth is what the hold of that sum in a sandbox is worth. -/
noncomputable def Try.pinned : Pinned := { name := "ytfehnjcefmdljab", sum := "ee3901c844f9b05e76c466af353d3866b0faad2a974db8c7170ccd340576f52f", checked := Try.checked }
namespace Rows
def none {H : Type} : Left H := { results := [], args := [] }

/-- 'laws.FnExactReduceRows': WHATEVER THE INPUT: true; the input reads as it did. -/
def fnExactReduceRowsSpec : ChangeSpec := { name := "fnExactReduceRows", fn := fun _ => fun
  | [d1, d2] => { results := [.lit (.bool true)], args := [d1, d2] }
  | _ => none }
def fnExactReduceRowsRow : OpenClaim := { program := "ytfehnjcefmdljab", sum := "ee3901c844f9b05e76c466af353d3866b0faad2a974db8c7170ccd340576f52f", func := "loop.example/g00810/laws.FnExactReduceRows", spec := "fnExactReduceRows", apart := false }
def FnExactReduceRowsSaid : Prop := fnExactReduceRowsRow.holds Try.pinned (OpenSpec.ofChange fnExactReduceRowsSpec)

/-- ITS FALSE NEIGHBOUR: 'it returns false'. Refute it at one input. -/
def fnExactReduceRowsWrong : ChangeSpec := { name := "fnExactReduceRows", fn := fun _ => fun
  | [d1, d2] => { results := [.lit (.bool false)], args := [d1, d2] }
  | _ => none }
def FnExactReduceRowsWrongFalsely : Prop := fnExactReduceRowsRow.holds Try.pinned (OpenSpec.ofChange fnExactReduceRowsWrong)

/-- 'laws.FnExactSolveSystem': WHATEVER THE INPUT: true; the input reads as it did. -/
def fnExactSolveSystemSpec : ChangeSpec := { name := "fnExactSolveSystem", fn := fun _ => fun
  | [d1, d2] => { results := [.lit (.bool true)], args := [d1, d2] }
  | _ => none }
def fnExactSolveSystemRow : OpenClaim := { program := "ytfehnjcefmdljab", sum := "ee3901c844f9b05e76c466af353d3866b0faad2a974db8c7170ccd340576f52f", func := "loop.example/g00810/laws.FnExactSolveSystem", spec := "fnExactSolveSystem", apart := false }
def FnExactSolveSystemSaid : Prop := fnExactSolveSystemRow.holds Try.pinned (OpenSpec.ofChange fnExactSolveSystemSpec)

/-- ITS FALSE NEIGHBOUR: 'it returns false'. Refute it at one input. -/
def fnExactSolveSystemWrong : ChangeSpec := { name := "fnExactSolveSystem", fn := fun _ => fun
  | [d1, d2] => { results := [.lit (.bool false)], args := [d1, d2] }
  | _ => none }
def FnExactSolveSystemWrongFalsely : Prop := fnExactSolveSystemRow.holds Try.pinned (OpenSpec.ofChange fnExactSolveSystemWrong)

/-- 'laws.FnExactInvertMatrix': WHATEVER THE INPUT: true; the input reads as it did. -/
def fnExactInvertMatrixSpec : ChangeSpec := { name := "fnExactInvertMatrix", fn := fun _ => fun
  | [d] => { results := [.lit (.bool true)], args := [d] }
  | _ => none }
def fnExactInvertMatrixRow : OpenClaim := { program := "ytfehnjcefmdljab", sum := "ee3901c844f9b05e76c466af353d3866b0faad2a974db8c7170ccd340576f52f", func := "loop.example/g00810/laws.FnExactInvertMatrix", spec := "fnExactInvertMatrix", apart := false }
def FnExactInvertMatrixSaid : Prop := fnExactInvertMatrixRow.holds Try.pinned (OpenSpec.ofChange fnExactInvertMatrixSpec)

/-- ITS FALSE NEIGHBOUR: 'it returns false'. Refute it at one input. -/
def fnExactInvertMatrixWrong : ChangeSpec := { name := "fnExactInvertMatrix", fn := fun _ => fun
  | [d] => { results := [.lit (.bool false)], args := [d] }
  | _ => none }
def FnExactInvertMatrixWrongFalsely : Prop := fnExactInvertMatrixRow.holds Try.pinned (OpenSpec.ofChange fnExactInvertMatrixWrong)

/-- 'laws.FnExactIsGrounded': WHATEVER THE INPUT: true; the input reads as it did. -/
def fnExactIsGroundedSpec : ChangeSpec := { name := "fnExactIsGrounded", fn := fun _ => fun
  | [d] => { results := [.lit (.bool true)], args := [d] }
  | _ => none }
def fnExactIsGroundedRow : OpenClaim := { program := "ytfehnjcefmdljab", sum := "ee3901c844f9b05e76c466af353d3866b0faad2a974db8c7170ccd340576f52f", func := "loop.example/g00810/laws.FnExactIsGrounded", spec := "fnExactIsGrounded", recurses := true, apart := false }
def FnExactIsGroundedSaid : Prop := fnExactIsGroundedRow.holds Try.pinned (OpenSpec.ofChange fnExactIsGroundedSpec)

/-- ITS FALSE NEIGHBOUR: 'it returns false'. Refute it at one input. -/
def fnExactIsGroundedWrong : ChangeSpec := { name := "fnExactIsGrounded", fn := fun _ => fun
  | [d] => { results := [.lit (.bool false)], args := [d] }
  | _ => none }
def FnExactIsGroundedWrongFalsely : Prop := fnExactIsGroundedRow.holds Try.pinned (OpenSpec.ofChange fnExactIsGroundedWrong)

/-- 'laws.FnExactComponentOf': WHATEVER THE INPUT: true; the input reads as it did. -/
def fnExactComponentOfSpec : ChangeSpec := { name := "fnExactComponentOf", fn := fun _ => fun
  | [d1, d2] => { results := [.lit (.bool true)], args := [d1, d2] }
  | _ => none }
def fnExactComponentOfRow : OpenClaim := { program := "ytfehnjcefmdljab", sum := "ee3901c844f9b05e76c466af353d3866b0faad2a974db8c7170ccd340576f52f", func := "loop.example/g00810/laws.FnExactComponentOf", spec := "fnExactComponentOf", recurses := true, apart := false }
def FnExactComponentOfSaid : Prop := fnExactComponentOfRow.holds Try.pinned (OpenSpec.ofChange fnExactComponentOfSpec)

/-- ITS FALSE NEIGHBOUR: 'it returns false'. Refute it at one input. -/
def fnExactComponentOfWrong : ChangeSpec := { name := "fnExactComponentOf", fn := fun _ => fun
  | [d1, d2] => { results := [.lit (.bool false)], args := [d1, d2] }
  | _ => none }
def FnExactComponentOfWrongFalsely : Prop := fnExactComponentOfRow.holds Try.pinned (OpenSpec.ofChange fnExactComponentOfWrong)

/- THE SECOND FORM. 'bulk': how many values and letters a reading holds, each counted each time it is reached (what is shared counts as often as it is met; a slice's spare places count too). A statement '..UptoSaid' is the law's where the arguments, and the package variables that the reading takes, are together of bulk at most 1048576: NARROWER than '..Said'. Prove '..Said' where nothing that the law and all that it calls make is longer than what came in: it says more and counts as full. Else prove '..UptoSaid'. A law counts once. -/
mutual
def uptoBulk {H : Type} : DataW H → Nat
  | .lit (.string bytes) => bytes.length + 1
  | .lit _ => 1
  | .nil => 1
  | .ptr d => uptoBulk d + 1
  | .slice elems spare => uptoBulkAll elems + uptoBulkAll spare + 1
  | .agg parts => uptoBulkAll parts + 1
  | .iface _ d => uptoBulk d + 1
  | .map entries => uptoBulkEntries entries + 1
  | .held _ => 1
def uptoBulkAll {H : Type} : List (DataW H) → Nat
  | [] => 0
  | d :: r => uptoBulk d + uptoBulkAll r
def uptoBulkEntries {H : Type} : List (Lit × DataW H) → Nat
  | [] => 0
  | x :: r => uptoBulkEntry x + uptoBulkEntries r
def uptoBulkEntry {H : Type} : Lit × DataW H → Nat
  | (.string bytes, d) => bytes.length + uptoBulk d + 1
  | (_, d) => uptoBulk d + 1
 end
def uptoSmall : (H : Type) → List (DataW H) → Bool := fun _ ds => decide (uptoBulkAll ds ≤ 1048576)
def OpenSpec.upto (s : _root_.Go.ChangeSpec) : _root_.Go.OpenSpec := { _root_.Go.OpenSpec.ofChange s with cond := some uptoSmall }

/-- 'laws.FnExactReduceRows', WHERE WHAT IT READS IS OF BULK AT MOST 1048576: true; the input reads as it did. -/
def fnExactReduceRowsUptoRow : OpenClaim := { program := "ytfehnjcefmdljab", sum := "ee3901c844f9b05e76c466af353d3866b0faad2a974db8c7170ccd340576f52f", func := "loop.example/g00810/laws.FnExactReduceRows", spec := "fnExactReduceRows", apart := false, narrowed := true }
def FnExactReduceRowsUptoSaid : Prop := fnExactReduceRowsUptoRow.holds Try.pinned (OpenSpec.upto fnExactReduceRowsSpec)

/-- 'laws.FnExactSolveSystem', WHERE WHAT IT READS IS OF BULK AT MOST 1048576: true; the input reads as it did. -/
def fnExactSolveSystemUptoRow : OpenClaim := { program := "ytfehnjcefmdljab", sum := "ee3901c844f9b05e76c466af353d3866b0faad2a974db8c7170ccd340576f52f", func := "loop.example/g00810/laws.FnExactSolveSystem", spec := "fnExactSolveSystem", apart := false, narrowed := true }
def FnExactSolveSystemUptoSaid : Prop := fnExactSolveSystemUptoRow.holds Try.pinned (OpenSpec.upto fnExactSolveSystemSpec)

/-- 'laws.FnExactInvertMatrix', WHERE WHAT IT READS IS OF BULK AT MOST 1048576: true; the input reads as it did. -/
def fnExactInvertMatrixUptoRow : OpenClaim := { program := "ytfehnjcefmdljab", sum := "ee3901c844f9b05e76c466af353d3866b0faad2a974db8c7170ccd340576f52f", func := "loop.example/g00810/laws.FnExactInvertMatrix", spec := "fnExactInvertMatrix", apart := false, narrowed := true }
def FnExactInvertMatrixUptoSaid : Prop := fnExactInvertMatrixUptoRow.holds Try.pinned (OpenSpec.upto fnExactInvertMatrixSpec)

/-- 'laws.FnExactIsGrounded', WHERE WHAT IT READS IS OF BULK AT MOST 1048576: true; the input reads as it did. -/
def fnExactIsGroundedUptoRow : OpenClaim := { program := "ytfehnjcefmdljab", sum := "ee3901c844f9b05e76c466af353d3866b0faad2a974db8c7170ccd340576f52f", func := "loop.example/g00810/laws.FnExactIsGrounded", spec := "fnExactIsGrounded", recurses := true, apart := false, narrowed := true }
def FnExactIsGroundedUptoSaid : Prop := fnExactIsGroundedUptoRow.holds Try.pinned (OpenSpec.upto fnExactIsGroundedSpec)

/-- 'laws.FnExactComponentOf', WHERE WHAT IT READS IS OF BULK AT MOST 1048576: true; the input reads as it did. -/
def fnExactComponentOfUptoRow : OpenClaim := { program := "ytfehnjcefmdljab", sum := "ee3901c844f9b05e76c466af353d3866b0faad2a974db8c7170ccd340576f52f", func := "loop.example/g00810/laws.FnExactComponentOf", spec := "fnExactComponentOf", recurses := true, apart := false, narrowed := true }
def FnExactComponentOfUptoSaid : Prop := fnExactComponentOfUptoRow.holds Try.pinned (OpenSpec.upto fnExactComponentOfSpec)

end Rows
end Go.Proofs.Ytfehnjcefmdljab
