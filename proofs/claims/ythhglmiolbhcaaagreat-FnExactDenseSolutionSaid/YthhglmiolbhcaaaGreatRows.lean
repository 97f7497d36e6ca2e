/-
  No cell of these rows narrows 'for every input' (looked for: loops, veiled, ifaces, maps, wideKeys, modest, calm, conditions, laid).
  DERIVED. THE GIVEN ROWS OF THIS SEAT. 6 by the template 'for every input the law returns true; each argument reads behind the call as it read before'; 0 by the template 'total and deterministic' (their statements: YthhglmiolbhcaaaGreatTotals.lean).
  GIVEN WITH THE SEED: the statements are not yours to turn. If you find one false, say at which input.
  Laid BY PROGRAM, IN A SANDBOX (cutbox-rows.mjs): the forced cells as the released guide's own fill.sh prints them over the translation a0582d869ce0aca4… (all of the seat's roots in one cut). By AI agents, Wed Nov 11 2026. No macro, syntax, notation, axiom, sorry.
-/
import Derived.Test.YthhglmiolbhcaaaGreatChecked
import GoSem.Claim
import GoSem.ClaimJoined
import GoSem.ClaimMapViews
import Derived.JoinedTies
import Derived.KernelRfl
namespace Go.Proofs.YthhglmiolbhcaaaGreat
/- THE CELL 'sum', in the pinned program and in every row, IS THE sha256 OF THE DUMP (.gsa) THAT YthhglmiolbhcaaaGreatProg.lean LOADS. Nothing in Lean hashes anything: it is a label: what it is worth is what the hold of that sum in a sandbox is worth. -/
noncomputable def Tryz.pinned : Pinned := { name := "ythhglmiolbhcaaagreat", sum := "a0582d869ce0aca41f79008c4159acf292135a522419565feae83ec9c5ce15b7", checked := Tryz.checked }
namespace Rows
def none {H : Type} : Left H := { results := [], args := [] }

/-- 'laws.FnExactDenseCovariance': WHATEVER THE INPUT: true; the input reads as it did. -/
def fnExactDenseCovarianceSpec : ChangeSpec := { name := "fnExactDenseCovariance", fn := fun _ => fun
  | [d] => { results := [.lit (.bool true)], args := [d] }
  | _ => none }
def fnExactDenseCovarianceRow : OpenClaim := { program := "ythhglmiolbhcaaagreat", sum := "a0582d869ce0aca41f79008c4159acf292135a522419565feae83ec9c5ce15b7", func := "loop.example/g00810/laws.FnExactDenseCovariance", spec := "fnExactDenseCovariance", apart := false }
def FnExactDenseCovarianceSaid : Prop := fnExactDenseCovarianceRow.holds Tryz.pinned (OpenSpec.ofChange fnExactDenseCovarianceSpec)

/-- ITS FALSE NEIGHBOUR: 'it returns false'. Refute it at one input. -/
def fnExactDenseCovarianceWrong : ChangeSpec := { name := "fnExactDenseCovariance", fn := fun _ => fun
  | [d] => { results := [.lit (.bool false)], args := [d] }
  | _ => none }
def FnExactDenseCovarianceWrongFalsely : Prop := fnExactDenseCovarianceRow.holds Tryz.pinned (OpenSpec.ofChange fnExactDenseCovarianceWrong)

/-- 'laws.FnExactDenseSolution': WHATEVER THE INPUT: true; the input reads as it did. -/
def fnExactDenseSolutionSpec : ChangeSpec := { name := "fnExactDenseSolution", fn := fun _ => fun
  | [d] => { results := [.lit (.bool true)], args := [d] }
  | _ => none }
def fnExactDenseSolutionRow : OpenClaim := { program := "ythhglmiolbhcaaagreat", sum := "a0582d869ce0aca41f79008c4159acf292135a522419565feae83ec9c5ce15b7", func := "loop.example/g00810/laws.FnExactDenseSolution", spec := "fnExactDenseSolution", apart := false }
def FnExactDenseSolutionSaid : Prop := fnExactDenseSolutionRow.holds Tryz.pinned (OpenSpec.ofChange fnExactDenseSolutionSpec)

/-- ITS FALSE NEIGHBOUR: 'it returns false'. Refute it at one input. -/
def fnExactDenseSolutionWrong : ChangeSpec := { name := "fnExactDenseSolution", fn := fun _ => fun
  | [d] => { results := [.lit (.bool false)], args := [d] }
  | _ => none }
def FnExactDenseSolutionWrongFalsely : Prop := fnExactDenseSolutionRow.holds Tryz.pinned (OpenSpec.ofChange fnExactDenseSolutionWrong)

/-- 'laws.FnExactEliminateNode': WHATEVER THE INPUT: true; the input reads as it did. -/
def fnExactEliminateNodeSpec : ChangeSpec := { name := "fnExactEliminateNode", fn := fun _ => fun
  | [d1, d2] => { results := [.lit (.bool true)], args := [d1, d2] }
  | _ => none }
def fnExactEliminateNodeRow : OpenClaim := { program := "ythhglmiolbhcaaagreat", sum := "a0582d869ce0aca41f79008c4159acf292135a522419565feae83ec9c5ce15b7", func := "loop.example/g00810/laws.FnExactEliminateNode", spec := "fnExactEliminateNode", apart := false }
def FnExactEliminateNodeSaid : Prop := fnExactEliminateNodeRow.holds Tryz.pinned (OpenSpec.ofChange fnExactEliminateNodeSpec)

/-- ITS FALSE NEIGHBOUR: 'it returns false'. Refute it at one input. -/
def fnExactEliminateNodeWrong : ChangeSpec := { name := "fnExactEliminateNode", fn := fun _ => fun
  | [d1, d2] => { results := [.lit (.bool false)], args := [d1, d2] }
  | _ => none }
def FnExactEliminateNodeWrongFalsely : Prop := fnExactEliminateNodeRow.holds Tryz.pinned (OpenSpec.ofChange fnExactEliminateNodeWrong)

/-- 'laws.FnExactReduceNode': WHATEVER THE INPUT: true; the input reads as it did. -/
def fnExactReduceNodeSpec : ChangeSpec := { name := "fnExactReduceNode", fn := fun _ => fun
  | [d1, d2] => { results := [.lit (.bool true)], args := [d1, d2] }
  | _ => none }
def fnExactReduceNodeRow : OpenClaim := { program := "ythhglmiolbhcaaagreat", sum := "a0582d869ce0aca41f79008c4159acf292135a522419565feae83ec9c5ce15b7", func := "loop.example/g00810/laws.FnExactReduceNode", spec := "fnExactReduceNode", apart := false }
def FnExactReduceNodeSaid : Prop := fnExactReduceNodeRow.holds Tryz.pinned (OpenSpec.ofChange fnExactReduceNodeSpec)

/-- ITS FALSE NEIGHBOUR: 'it returns false'. Refute it at one input. -/
def fnExactReduceNodeWrong : ChangeSpec := { name := "fnExactReduceNode", fn := fun _ => fun
  | [d1, d2] => { results := [.lit (.bool false)], args := [d1, d2] }
  | _ => none }
def FnExactReduceNodeWrongFalsely : Prop := fnExactReduceNodeRow.holds Tryz.pinned (OpenSpec.ofChange fnExactReduceNodeWrong)

/-- 'laws.FnExactEliminateAll': WHATEVER THE INPUT: true; the input reads as it did. -/
def fnExactEliminateAllSpec : ChangeSpec := { name := "fnExactEliminateAll", fn := fun _ => fun
  | [d1, d2] => { results := [.lit (.bool true)], args := [d1, d2] }
  | _ => none }
def fnExactEliminateAllRow : OpenClaim := { program := "ythhglmiolbhcaaagreat", sum := "a0582d869ce0aca41f79008c4159acf292135a522419565feae83ec9c5ce15b7", func := "loop.example/g00810/laws.FnExactEliminateAll", spec := "fnExactEliminateAll", apart := false }
def FnExactEliminateAllSaid : Prop := fnExactEliminateAllRow.holds Tryz.pinned (OpenSpec.ofChange fnExactEliminateAllSpec)

/-- ITS FALSE NEIGHBOUR: 'it returns false'. Refute it at one input. -/
def fnExactEliminateAllWrong : ChangeSpec := { name := "fnExactEliminateAll", fn := fun _ => fun
  | [d1, d2] => { results := [.lit (.bool false)], args := [d1, d2] }
  | _ => none }
def FnExactEliminateAllWrongFalsely : Prop := fnExactEliminateAllRow.holds Tryz.pinned (OpenSpec.ofChange fnExactEliminateAllWrong)

/-- 'laws.FnGraph': WHATEVER THE INPUT: true; the input reads as it did. -/
def fnGraphSpec : ChangeSpec := { name := "fnGraph", fn := fun _ => fun
  | [d] => { results := [.lit (.bool true)], args := [d] }
  | _ => none }
def fnGraphRow : OpenClaim := { program := "ythhglmiolbhcaaagreat", sum := "a0582d869ce0aca41f79008c4159acf292135a522419565feae83ec9c5ce15b7", func := "loop.example/g00810/laws.FnGraph", spec := "fnGraph", recurses := true, apart := false }
def FnGraphSaid : Prop := fnGraphRow.holds Tryz.pinned (OpenSpec.ofChange fnGraphSpec)

/-- ITS FALSE NEIGHBOUR: 'it returns false'. Refute it at one input. -/
def fnGraphWrong : ChangeSpec := { name := "fnGraph", fn := fun _ => fun
  | [d] => { results := [.lit (.bool false)], args := [d] }
  | _ => none }
def FnGraphWrongFalsely : Prop := fnGraphRow.holds Tryz.pinned (OpenSpec.ofChange fnGraphWrong)

/- THE SECOND FORM. 'bulk': how many values and letters a reading holds, each counted each time it is reached (what is shared counts as often as it is met; a slice's spare places count too). A statement '..UptoSaid' is the law's where the arguments, and the package variables that the reading takes, are together of bulk at most 1048576: NARROWER than '..Said'. Prove '..Said' where nothing that the law and all that it calls make is longer than what came in: it says more and counts as full. Else prove '..UptoSaid'. A law counts once. -/
mutual
def uptoBulk {H : Type} : DataW H → Nat
  | .lit (.string bytes) => bytes.length + 1
  | .lit _ => 1
  | .nil => 1
  | .ptr d => uptoBulk d + 1
  | .slice elems spare => uptoBulkAll elems + uptoBulkAll spare + 1
  | .agg parts => uptoBulkAll parts + 1
  | .iface _ d => uptoBulk d + 1
  | .map entries => uptoBulkEntries entries + 1
  | .held _ => 1
def uptoBulkAll {H : Type} : List (DataW H) → Nat
  | [] => 0
  | d :: r => uptoBulk d + uptoBulkAll r
def uptoBulkEntries {H : Type} : List (Lit × DataW H) → Nat
  | [] => 0
  | x :: r => uptoBulkEntry x + uptoBulkEntries r
def uptoBulkEntry {H : Type} : Lit × DataW H → Nat
  | (.string bytes, d) => bytes.length + uptoBulk d + 1
  | (_, d) => uptoBulk d + 1
 end
def uptoSmall : (H : Type) → List (DataW H) → Bool := fun _ ds => decide (uptoBulkAll ds ≤ 1048576)
def OpenSpec.upto (s : _root_.Go.ChangeSpec) : _root_.Go.OpenSpec := { _root_.Go.OpenSpec.ofChange s with cond := some uptoSmall }

/-- 'laws.FnExactDenseCovariance', WHERE WHAT IT READS IS OF BULK AT MOST 1048576: true; the input reads as it did. -/
def fnExactDenseCovarianceUptoRow : OpenClaim := { program := "ythhglmiolbhcaaagreat", sum := "a0582d869ce0aca41f79008c4159acf292135a522419565feae83ec9c5ce15b7", func := "loop.example/g00810/laws.FnExactDenseCovariance", spec := "fnExactDenseCovariance", apart := false, narrowed := true }
def FnExactDenseCovarianceUptoSaid : Prop := fnExactDenseCovarianceUptoRow.holds Tryz.pinned (OpenSpec.upto fnExactDenseCovarianceSpec)

/-- 'laws.FnExactDenseSolution', WHERE WHAT IT READS IS OF BULK AT MOST 1048576: true; the input reads as it did. -/
def fnExactDenseSolutionUptoRow : OpenClaim := { program := "ythhglmiolbhcaaagreat", sum := "a0582d869ce0aca41f79008c4159acf292135a522419565feae83ec9c5ce15b7", func := "loop.example/g00810/laws.FnExactDenseSolution", spec := "fnExactDenseSolution", apart := false, narrowed := true }
def FnExactDenseSolutionUptoSaid : Prop := fnExactDenseSolutionUptoRow.holds Tryz.pinned (OpenSpec.upto fnExactDenseSolutionSpec)

/-- 'laws.FnExactEliminateNode', WHERE WHAT IT READS IS OF BULK AT MOST 1048576: true; the input reads as it did. -/
def fnExactEliminateNodeUptoRow : OpenClaim := { program := "ythhglmiolbhcaaagreat", sum := "a0582d869ce0aca41f79008c4159acf292135a522419565feae83ec9c5ce15b7", func := "loop.example/g00810/laws.FnExactEliminateNode", spec := "fnExactEliminateNode", apart := false, narrowed := true }
def FnExactEliminateNodeUptoSaid : Prop := fnExactEliminateNodeUptoRow.holds Tryz.pinned (OpenSpec.upto fnExactEliminateNodeSpec)

/-- 'laws.FnExactReduceNode', WHERE WHAT IT READS IS OF BULK AT MOST 1048576: true; the input reads as it did. -/
def fnExactReduceNodeUptoRow : OpenClaim := { program := "ythhglmiolbhcaaagreat", sum := "a0582d869ce0aca41f79008c4159acf292135a522419565feae83ec9c5ce15b7", func := "loop.example/g00810/laws.FnExactReduceNode", spec := "fnExactReduceNode", apart := false, narrowed := true }
def FnExactReduceNodeUptoSaid : Prop := fnExactReduceNodeUptoRow.holds Tryz.pinned (OpenSpec.upto fnExactReduceNodeSpec)

/-- 'laws.FnExactEliminateAll', WHERE WHAT IT READS IS OF BULK AT MOST 1048576: true; the input reads as it did. -/
def fnExactEliminateAllUptoRow : OpenClaim := { program := "ythhglmiolbhcaaagreat", sum := "a0582d869ce0aca41f79008c4159acf292135a522419565feae83ec9c5ce15b7", func := "loop.example/g00810/laws.FnExactEliminateAll", spec := "fnExactEliminateAll", apart := false, narrowed := true }
def FnExactEliminateAllUptoSaid : Prop := fnExactEliminateAllUptoRow.holds Tryz.pinned (OpenSpec.upto fnExactEliminateAllSpec)

/-- 'laws.FnGraph', WHERE WHAT IT READS IS OF BULK AT MOST 1048576: true; the input reads as it did. -/
def fnGraphUptoRow : OpenClaim := { program := "ythhglmiolbhcaaagreat", sum := "a0582d869ce0aca41f79008c4159acf292135a522419565feae83ec9c5ce15b7", func := "loop.example/g00810/laws.FnGraph", spec := "fnGraph", recurses := true, apart := false, narrowed := true }
def FnGraphUptoSaid : Prop := fnGraphUptoRow.holds Tryz.pinned (OpenSpec.upto fnGraphSpec)

end Rows
end Go.Proofs.YthhglmiolbhcaaaGreat
