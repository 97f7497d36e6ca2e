/-
  No cell of these rows narrows 'for every input' (looked for: loops, veiled, ifaces, maps, wideKeys, modest, calm, conditions, laid).
  DERIVED. THE GIVEN ROWS OF THIS SEAT. 5 by the template 'for every input the law returns true; each argument reads behind the call as it read before'; 0 by the template 'total and deterministic' (their statements: YtlfkphjcoabjcaaTotals.lean).
  GIVEN WITH THE SEED: the statements are not yours to turn. If you find one false, say at which input.
  Laid BY PROGRAM, IN A SANDBOX (cutbox-rows.mjs): the forced cells as the released guide's own fill.sh prints them over the translation e860b0a061228c9d… (all of the seat's roots in one cut). By AI agents, Wed Nov 11 2026. No macro, syntax, notation, axiom, sorry.
-/
import Derived.Test.YtlfkphjcoabjcaaChecked
import GoSem.Claim
import GoSem.ClaimJoined
import GoSem.ClaimMapViews
import Derived.JoinedTies
import Derived.KernelRfl
namespace Go.Proofs.Ytlfkphjcoabjcaa
/- THE CELL 'sum', in the pinned program and in every row, IS THE sha256 OF THE DUMP (.gsa) THAT YtlfkphjcoabjcaaProg.lean LOADS. Nothing in Lean hashes anything: it is a label: what it is worth is what the hold of that sum in a sandbox is worth. -/
noncomputable def Try.pinned : Pinned := { name := "ytlfkphjcoabjcaa", sum := "e860b0a061228c9d3468534627d6a7164231633b72ce3933ef23491e3f0ba57f", checked := Try.checked }
namespace Rows
def none {H : Type} : Left H := { results := [], args := [] }

/-- 'laws.FnExactBridges': WHATEVER THE INPUT: true; the input reads as it did. -/
def fnExactBridgesSpec : ChangeSpec := { name := "fnExactBridges", fn := fun _ => fun
  | [d] => { results := [.lit (.bool true)], args := [d] }
  | _ => none }
def fnExactBridgesRow : OpenClaim := { program := "ytlfkphjcoabjcaa", sum := "e860b0a061228c9d3468534627d6a7164231633b72ce3933ef23491e3f0ba57f", func := "loop.example/g00810/laws.FnExactBridges", spec := "fnExactBridges", recurses := true, apart := false }
def FnExactBridgesSaid : Prop := fnExactBridgesRow.holds Try.pinned (OpenSpec.ofChange fnExactBridgesSpec)

/-- ITS FALSE NEIGHBOUR: 'it returns false'. Refute it at one input. -/
def fnExactBridgesWrong : ChangeSpec := { name := "fnExactBridges", fn := fun _ => fun
  | [d] => { results := [.lit (.bool false)], args := [d] }
  | _ => none }
def FnExactBridgesWrongFalsely : Prop := fnExactBridgesRow.holds Try.pinned (OpenSpec.ofChange fnExactBridgesWrong)

/-- 'laws.FnExactReduceRows': WHATEVER THE INPUT: true; the input reads as it did. -/
def fnExactReduceRowsSpec : ChangeSpec := { name := "fnExactReduceRows", fn := fun _ => fun
  | [d1, d2] => { results := [.lit (.bool true)], args := [d1, d2] }
  | _ => none }
def fnExactReduceRowsRow : OpenClaim := { program := "ytlfkphjcoabjcaa", sum := "e860b0a061228c9d3468534627d6a7164231633b72ce3933ef23491e3f0ba57f", func := "loop.example/g00810/laws.FnExactReduceRows", spec := "fnExactReduceRows", apart := false }
def FnExactReduceRowsSaid : Prop := fnExactReduceRowsRow.holds Try.pinned (OpenSpec.ofChange fnExactReduceRowsSpec)

/-- ITS FALSE NEIGHBOUR: 'it returns false'. Refute it at one input. -/
def fnExactReduceRowsWrong : ChangeSpec := { name := "fnExactReduceRows", fn := fun _ => fun
  | [d1, d2] => { results := [.lit (.bool false)], args := [d1, d2] }
  | _ => none }
def FnExactReduceRowsWrongFalsely : Prop := fnExactReduceRowsRow.holds Try.pinned (OpenSpec.ofChange fnExactReduceRowsWrong)

/-- 'laws.FnExactSolveSystem': WHATEVER THE INPUT: true; the input reads as it did. -/
def fnExactSolveSystemSpec : ChangeSpec := { name := "fnExactSolveSystem", fn := fun _ => fun
  | [d1, d2] => { results := [.lit (.bool true)], args := [d1, d2] }
  | _ => none }
def fnExactSolveSystemRow : OpenClaim := { program := "ytlfkphjcoabjcaa", sum := "e860b0a061228c9d3468534627d6a7164231633b72ce3933ef23491e3f0ba57f", func := "loop.example/g00810/laws.FnExactSolveSystem", spec := "fnExactSolveSystem", apart := false }
def FnExactSolveSystemSaid : Prop := fnExactSolveSystemRow.holds Try.pinned (OpenSpec.ofChange fnExactSolveSystemSpec)

/-- ITS FALSE NEIGHBOUR: 'it returns false'. Refute it at one input. -/
def fnExactSolveSystemWrong : ChangeSpec := { name := "fnExactSolveSystem", fn := fun _ => fun
  | [d1, d2] => { results := [.lit (.bool false)], args := [d1, d2] }
  | _ => none }
def FnExactSolveSystemWrongFalsely : Prop := fnExactSolveSystemRow.holds Try.pinned (OpenSpec.ofChange fnExactSolveSystemWrong)

/-- 'laws.FnExactInvertMatrix': WHATEVER THE INPUT: true; the input reads as it did. -/
def fnExactInvertMatrixSpec : ChangeSpec := { name := "fnExactInvertMatrix", fn := fun _ => fun
  | [d] => { results := [.lit (.bool true)], args := [d] }
  | _ => none }
def fnExactInvertMatrixRow : OpenClaim := { program := "ytlfkphjcoabjcaa", sum := "e860b0a061228c9d3468534627d6a7164231633b72ce3933ef23491e3f0ba57f", func := "loop.example/g00810/laws.FnExactInvertMatrix", spec := "fnExactInvertMatrix", apart := false }
def FnExactInvertMatrixSaid : Prop := fnExactInvertMatrixRow.holds Try.pinned (OpenSpec.ofChange fnExactInvertMatrixSpec)

/-- ITS FALSE NEIGHBOUR: 'it returns false'. Refute it at one input. -/
def fnExactInvertMatrixWrong : ChangeSpec := { name := "fnExactInvertMatrix", fn := fun _ => fun
  | [d] => { results := [.lit (.bool false)], args := [d] }
  | _ => none }
def FnExactInvertMatrixWrongFalsely : Prop := fnExactInvertMatrixRow.holds Try.pinned (OpenSpec.ofChange fnExactInvertMatrixWrong)

/-- 'laws.FnExactInformationMatrix': WHATEVER THE INPUT: true; the input reads as it did. -/
def fnExactInformationMatrixSpec : ChangeSpec := { name := "fnExactInformationMatrix", fn := fun _ => fun
  | [d] => { results := [.lit (.bool true)], args := [d] }
  | _ => none }
def fnExactInformationMatrixRow : OpenClaim := { program := "ytlfkphjcoabjcaa", sum := "e860b0a061228c9d3468534627d6a7164231633b72ce3933ef23491e3f0ba57f", func := "loop.example/g00810/laws.FnExactInformationMatrix", spec := "fnExactInformationMatrix", apart := false }
def FnExactInformationMatrixSaid : Prop := fnExactInformationMatrixRow.holds Try.pinned (OpenSpec.ofChange fnExactInformationMatrixSpec)

/-- ITS FALSE NEIGHBOUR: 'it returns false'. Refute it at one input. -/
def fnExactInformationMatrixWrong : ChangeSpec := { name := "fnExactInformationMatrix", fn := fun _ => fun
  | [d] => { results := [.lit (.bool false)], args := [d] }
  | _ => none }
def FnExactInformationMatrixWrongFalsely : Prop := fnExactInformationMatrixRow.holds Try.pinned (OpenSpec.ofChange fnExactInformationMatrixWrong)

/- THE SECOND FORM. 'bulk': how many values and letters a reading holds, each counted each time it is reached (what is shared counts as often as it is met; a slice's spare places count too). A statement '..UptoSaid' is the law's where the arguments, and the package variables that the reading takes, are together of bulk at most 1048576: NARROWER than '..Said'. Prove '..Said' where nothing that the law and all that it calls make is longer than what came in: it says more and counts as full. Else prove '..UptoSaid'. A law counts once. -/
mutual
def uptoBulk {H : Type} : DataW H → Nat
  | .lit (.string bytes) => bytes.length + 1
  | .lit _ => 1
  | .nil => 1
  | .ptr d => uptoBulk d + 1
  | .slice elems spare => uptoBulkAll elems + uptoBulkAll spare + 1
  | .agg parts => uptoBulkAll parts + 1
  | .iface _ d => uptoBulk d + 1
  | .map entries => uptoBulkEntries entries + 1
  | .held _ => 1
def uptoBulkAll {H : Type} : List (DataW H) → Nat
  | [] => 0
  | d :: r => uptoBulk d + uptoBulkAll r
def uptoBulkEntries {H : Type} : List (Lit × DataW H) → Nat
  | [] => 0
  | x :: r => uptoBulkEntry x + uptoBulkEntries r
def uptoBulkEntry {H : Type} : Lit × DataW H → Nat
  | (.string bytes, d) => bytes.length + uptoBulk d + 1
  | (_, d) => uptoBulk d + 1
 end
def uptoSmall : (H : Type) → List (DataW H) → Bool := fun _ ds => decide (uptoBulkAll ds ≤ 1048576)
def OpenSpec.upto (s : _root_.Go.ChangeSpec) : _root_.Go.OpenSpec := { _root_.Go.OpenSpec.ofChange s with cond := some uptoSmall }

/-- 'laws.FnExactBridges', WHERE WHAT IT READS IS OF BULK AT MOST 1048576: true; the input reads as it did. -/
def fnExactBridgesUptoRow : OpenClaim := { program := "ytlfkphjcoabjcaa", sum := "e860b0a061228c9d3468534627d6a7164231633b72ce3933ef23491e3f0ba57f", func := "loop.example/g00810/laws.FnExactBridges", spec := "fnExactBridges", recurses := true, apart := false, narrowed := true }
def FnExactBridgesUptoSaid : Prop := fnExactBridgesUptoRow.holds Try.pinned (OpenSpec.upto fnExactBridgesSpec)

/-- 'laws.FnExactReduceRows', WHERE WHAT IT READS IS OF BULK AT MOST 1048576: true; the input reads as it did. -/
def fnExactReduceRowsUptoRow : OpenClaim := { program := "ytlfkphjcoabjcaa", sum := "e860b0a061228c9d3468534627d6a7164231633b72ce3933ef23491e3f0ba57f", func := "loop.example/g00810/laws.FnExactReduceRows", spec := "fnExactReduceRows", apart := false, narrowed := true }
def FnExactReduceRowsUptoSaid : Prop := fnExactReduceRowsUptoRow.holds Try.pinned (OpenSpec.upto fnExactReduceRowsSpec)

/-- 'laws.FnExactSolveSystem', WHERE WHAT IT READS IS OF BULK AT MOST 1048576: true; the input reads as it did. -/
def fnExactSolveSystemUptoRow : OpenClaim := { program := "ytlfkphjcoabjcaa", sum := "e860b0a061228c9d3468534627d6a7164231633b72ce3933ef23491e3f0ba57f", func := "loop.example/g00810/laws.FnExactSolveSystem", spec := "fnExactSolveSystem", apart := false, narrowed := true }
def FnExactSolveSystemUptoSaid : Prop := fnExactSolveSystemUptoRow.holds Try.pinned (OpenSpec.upto fnExactSolveSystemSpec)

/-- 'laws.FnExactInvertMatrix', WHERE WHAT IT READS IS OF BULK AT MOST 1048576: true; the input reads as it did. -/
def fnExactInvertMatrixUptoRow : OpenClaim := { program := "ytlfkphjcoabjcaa", sum := "e860b0a061228c9d3468534627d6a7164231633b72ce3933ef23491e3f0ba57f", func := "loop.example/g00810/laws.FnExactInvertMatrix", spec := "fnExactInvertMatrix", apart := false, narrowed := true }
def FnExactInvertMatrixUptoSaid : Prop := fnExactInvertMatrixUptoRow.holds Try.pinned (OpenSpec.upto fnExactInvertMatrixSpec)

/-- 'laws.FnExactInformationMatrix', WHERE WHAT IT READS IS OF BULK AT MOST 1048576: true; the input reads as it did. -/
def fnExactInformationMatrixUptoRow : OpenClaim := { program := "ytlfkphjcoabjcaa", sum := "e860b0a061228c9d3468534627d6a7164231633b72ce3933ef23491e3f0ba57f", func := "loop.example/g00810/laws.FnExactInformationMatrix", spec := "fnExactInformationMatrix", apart := false, narrowed := true }
def FnExactInformationMatrixUptoSaid : Prop := fnExactInformationMatrixUptoRow.holds Try.pinned (OpenSpec.upto fnExactInformationMatrixSpec)

end Rows
end Go.Proofs.Ytlfkphjcoabjcaa
