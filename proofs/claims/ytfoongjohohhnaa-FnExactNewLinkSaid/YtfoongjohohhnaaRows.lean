/-
  No cell of these rows narrows 'for every input' (looked for: loops, veiled, ifaces, maps, wideKeys, modest, calm, conditions, laid).
  DERIVED. THE GIVEN ROWS OF THIS SEAT. 6 by the template 'for every input the law returns true; each argument reads behind the call as it read before'; 0 by the template 'total and deterministic' (their statements: YtfoongjohohhnaaTotals.lean).
  GIVEN WITH THE SEED: the statements are not yours to turn. If you find one false, say at which input.
  Laid BY PROGRAM, IN A SANDBOX (cutbox-rows.mjs): the forced cells as the released guide's own fill.sh prints them over the translation 9129cbf8dea59be5… (all of the seat's roots in one cut). By AI agents, Wed Nov 11 2026. No macro, syntax, notation, axiom, sorry.
-/
import Derived.Test.YtfoongjohohhnaaChecked
import GoSem.Claim
import GoSem.ClaimJoined
import GoSem.ClaimMapViews
import Derived.JoinedTies
import Derived.KernelRfl
namespace Go.Proofs.Ytfoongjohohhnaa
/- THE CELL 'sum', in the pinned program and in every row, IS THE sha256 OF THE DUMP (.gsa) THAT YtfoongjohohhnaaProg.lean LOADS. Nothing in Lean hashes anything: it is a label: what it is worth is what the hold of that sum in a sandbox is worth. -/
noncomputable def Try.pinned : Pinned := { name := "ytfoongjohohhnaa", sum := "9129cbf8dea59be5834150d3b8074ece379ab1b9e437524bf64dc35c67a08f40", checked := Try.checked }
namespace Rows
def none {H : Type} : Left H := { results := [], args := [] }

/-- 'laws.FnExactNewLink': WHATEVER THE INPUT: true; the input reads as it did. -/
def fnExactNewLinkSpec : ChangeSpec := { name := "fnExactNewLink", fn := fun _ => fun
  | [d1, d2, d3, d4, d5] => { results := [.lit (.bool true)], args := [d1, d2, d3, d4, d5] }
  | _ => none }
def fnExactNewLinkRow : OpenClaim := { program := "ytfoongjohohhnaa", sum := "9129cbf8dea59be5834150d3b8074ece379ab1b9e437524bf64dc35c67a08f40", func := "loop.example/g00810/laws.FnExactNewLink", spec := "fnExactNewLink", apart := false }
def FnExactNewLinkSaid : Prop := fnExactNewLinkRow.holds Try.pinned (OpenSpec.ofChange fnExactNewLinkSpec)

/-- ITS FALSE NEIGHBOUR: 'it returns false'. Refute it at one input. -/
def fnExactNewLinkWrong : ChangeSpec := { name := "fnExactNewLink", fn := fun _ => fun
  | [d1, d2, d3, d4, d5] => { results := [.lit (.bool false)], args := [d1, d2, d3, d4, d5] }
  | _ => none }
def FnExactNewLinkWrongFalsely : Prop := fnExactNewLinkRow.holds Try.pinned (OpenSpec.ofChange fnExactNewLinkWrong)

/-- 'laws.FnExactNodesOf': WHATEVER THE INPUT: true; the input reads as it did. -/
def fnExactNodesOfSpec : ChangeSpec := { name := "fnExactNodesOf", fn := fun _ => fun
  | [d] => { results := [.lit (.bool true)], args := [d] }
  | _ => none }
def fnExactNodesOfRow : OpenClaim := { program := "ytfoongjohohhnaa", sum := "9129cbf8dea59be5834150d3b8074ece379ab1b9e437524bf64dc35c67a08f40", func := "loop.example/g00810/laws.FnExactNodesOf", spec := "fnExactNodesOf", apart := false }
def FnExactNodesOfSaid : Prop := fnExactNodesOfRow.holds Try.pinned (OpenSpec.ofChange fnExactNodesOfSpec)

/-- ITS FALSE NEIGHBOUR: 'it returns false'. Refute it at one input. -/
def fnExactNodesOfWrong : ChangeSpec := { name := "fnExactNodesOf", fn := fun _ => fun
  | [d] => { results := [.lit (.bool false)], args := [d] }
  | _ => none }
def FnExactNodesOfWrongFalsely : Prop := fnExactNodesOfRow.holds Try.pinned (OpenSpec.ofChange fnExactNodesOfWrong)

/-- 'laws.FnExactNeighborsOf': WHATEVER THE INPUT: true; the input reads as it did. -/
def fnExactNeighborsOfSpec : ChangeSpec := { name := "fnExactNeighborsOf", fn := fun _ => fun
  | [d1, d2] => { results := [.lit (.bool true)], args := [d1, d2] }
  | _ => none }
def fnExactNeighborsOfRow : OpenClaim := { program := "ytfoongjohohhnaa", sum := "9129cbf8dea59be5834150d3b8074ece379ab1b9e437524bf64dc35c67a08f40", func := "loop.example/g00810/laws.FnExactNeighborsOf", spec := "fnExactNeighborsOf", apart := false }
def FnExactNeighborsOfSaid : Prop := fnExactNeighborsOfRow.holds Try.pinned (OpenSpec.ofChange fnExactNeighborsOfSpec)

/-- ITS FALSE NEIGHBOUR: 'it returns false'. Refute it at one input. -/
def fnExactNeighborsOfWrong : ChangeSpec := { name := "fnExactNeighborsOf", fn := fun _ => fun
  | [d1, d2] => { results := [.lit (.bool false)], args := [d1, d2] }
  | _ => none }
def FnExactNeighborsOfWrongFalsely : Prop := fnExactNeighborsOfRow.holds Try.pinned (OpenSpec.ofChange fnExactNeighborsOfWrong)

/-- 'laws.FnExactLinkOf': WHATEVER THE INPUT: true; the input reads as it did. -/
def fnExactLinkOfSpec : ChangeSpec := { name := "fnExactLinkOf", fn := fun _ => fun
  | [d1, d2, d3] => { results := [.lit (.bool true)], args := [d1, d2, d3] }
  | _ => none }
def fnExactLinkOfRow : OpenClaim := { program := "ytfoongjohohhnaa", sum := "9129cbf8dea59be5834150d3b8074ece379ab1b9e437524bf64dc35c67a08f40", func := "loop.example/g00810/laws.FnExactLinkOf", spec := "fnExactLinkOf", apart := false }
def FnExactLinkOfSaid : Prop := fnExactLinkOfRow.holds Try.pinned (OpenSpec.ofChange fnExactLinkOfSpec)

/-- ITS FALSE NEIGHBOUR: 'it returns false'. Refute it at one input. -/
def fnExactLinkOfWrong : ChangeSpec := { name := "fnExactLinkOf", fn := fun _ => fun
  | [d1, d2, d3] => { results := [.lit (.bool false)], args := [d1, d2, d3] }
  | _ => none }
def FnExactLinkOfWrongFalsely : Prop := fnExactLinkOfRow.holds Try.pinned (OpenSpec.ofChange fnExactLinkOfWrong)

/-- 'laws.FnExactWithoutNode': WHATEVER THE INPUT: true; the input reads as it did. -/
def fnExactWithoutNodeSpec : ChangeSpec := { name := "fnExactWithoutNode", fn := fun _ => fun
  | [d1, d2] => { results := [.lit (.bool true)], args := [d1, d2] }
  | _ => none }
def fnExactWithoutNodeRow : OpenClaim := { program := "ytfoongjohohhnaa", sum := "9129cbf8dea59be5834150d3b8074ece379ab1b9e437524bf64dc35c67a08f40", func := "loop.example/g00810/laws.FnExactWithoutNode", spec := "fnExactWithoutNode", apart := false }
def FnExactWithoutNodeSaid : Prop := fnExactWithoutNodeRow.holds Try.pinned (OpenSpec.ofChange fnExactWithoutNodeSpec)

/-- ITS FALSE NEIGHBOUR: 'it returns false'. Refute it at one input. -/
def fnExactWithoutNodeWrong : ChangeSpec := { name := "fnExactWithoutNode", fn := fun _ => fun
  | [d1, d2] => { results := [.lit (.bool false)], args := [d1, d2] }
  | _ => none }
def FnExactWithoutNodeWrongFalsely : Prop := fnExactWithoutNodeRow.holds Try.pinned (OpenSpec.ofChange fnExactWithoutNodeWrong)

/-- 'laws.FnExactOrderOf': WHATEVER THE INPUT: true; the input reads as it did. -/
def fnExactOrderOfSpec : ChangeSpec := { name := "fnExactOrderOf", fn := fun _ => fun
  | [d] => { results := [.lit (.bool true)], args := [d] }
  | _ => none }
def fnExactOrderOfRow : OpenClaim := { program := "ytfoongjohohhnaa", sum := "9129cbf8dea59be5834150d3b8074ece379ab1b9e437524bf64dc35c67a08f40", func := "loop.example/g00810/laws.FnExactOrderOf", spec := "fnExactOrderOf", apart := false }
def FnExactOrderOfSaid : Prop := fnExactOrderOfRow.holds Try.pinned (OpenSpec.ofChange fnExactOrderOfSpec)

/-- ITS FALSE NEIGHBOUR: 'it returns false'. Refute it at one input. -/
def fnExactOrderOfWrong : ChangeSpec := { name := "fnExactOrderOf", fn := fun _ => fun
  | [d] => { results := [.lit (.bool false)], args := [d] }
  | _ => none }
def FnExactOrderOfWrongFalsely : Prop := fnExactOrderOfRow.holds Try.pinned (OpenSpec.ofChange fnExactOrderOfWrong)

/- THE SECOND FORM. 'bulk': how many values and letters a reading holds, each counted each time it is reached (what is shared counts as often as it is met; a slice's spare places count too). A statement '..UptoSaid' is the law's where the arguments, and the package variables that the reading takes, are together of bulk at most 1048576: NARROWER than '..Said'. Prove '..Said' where nothing that the law and all that it calls make is longer than what came in: it says more and counts as full. Else prove '..UptoSaid'. A law counts once. -/
mutual
def uptoBulk {H : Type} : DataW H → Nat
  | .lit (.string bytes) => bytes.length + 1
  | .lit _ => 1
  | .nil => 1
  | .ptr d => uptoBulk d + 1
  | .slice elems spare => uptoBulkAll elems + uptoBulkAll spare + 1
  | .agg parts => uptoBulkAll parts + 1
  | .iface _ d => uptoBulk d + 1
  | .map entries => uptoBulkEntries entries + 1
  | .held _ => 1
def uptoBulkAll {H : Type} : List (DataW H) → Nat
  | [] => 0
  | d :: r => uptoBulk d + uptoBulkAll r
def uptoBulkEntries {H : Type} : List (Lit × DataW H) → Nat
  | [] => 0
  | x :: r => uptoBulkEntry x + uptoBulkEntries r
def uptoBulkEntry {H : Type} : Lit × DataW H → Nat
  | (.string bytes, d) => bytes.length + uptoBulk d + 1
  | (_, d) => uptoBulk d + 1
 end
def uptoSmall : (H : Type) → List (DataW H) → Bool := fun _ ds => decide (uptoBulkAll ds ≤ 1048576)
def OpenSpec.upto (s : _root_.Go.ChangeSpec) : _root_.Go.OpenSpec := { _root_.Go.OpenSpec.ofChange s with cond := some uptoSmall }

/-- 'laws.FnExactNewLink', WHERE WHAT IT READS IS OF BULK AT MOST 1048576: true; the input reads as it did. -/
def fnExactNewLinkUptoRow : OpenClaim := { program := "ytfoongjohohhnaa", sum := "9129cbf8dea59be5834150d3b8074ece379ab1b9e437524bf64dc35c67a08f40", func := "loop.example/g00810/laws.FnExactNewLink", spec := "fnExactNewLink", apart := false, narrowed := true }
def FnExactNewLinkUptoSaid : Prop := fnExactNewLinkUptoRow.holds Try.pinned (OpenSpec.upto fnExactNewLinkSpec)

/-- 'laws.FnExactNodesOf', WHERE WHAT IT READS IS OF BULK AT MOST 1048576: true; the input reads as it did. -/
def fnExactNodesOfUptoRow : OpenClaim := { program := "ytfoongjohohhnaa", sum := "9129cbf8dea59be5834150d3b8074ece379ab1b9e437524bf64dc35c67a08f40", func := "loop.example/g00810/laws.FnExactNodesOf", spec := "fnExactNodesOf", apart := false, narrowed := true }
def FnExactNodesOfUptoSaid : Prop := fnExactNodesOfUptoRow.holds Try.pinned (OpenSpec.upto fnExactNodesOfSpec)

/-- 'laws.FnExactNeighborsOf', WHERE WHAT IT READS IS OF BULK AT MOST 1048576: true; the input reads as it did. -/
def fnExactNeighborsOfUptoRow : OpenClaim := { program := "ytfoongjohohhnaa", sum := "9129cbf8dea59be5834150d3b8074ece379ab1b9e437524bf64dc35c67a08f40", func := "loop.example/g00810/laws.FnExactNeighborsOf", spec := "fnExactNeighborsOf", apart := false, narrowed := true }
def FnExactNeighborsOfUptoSaid : Prop := fnExactNeighborsOfUptoRow.holds Try.pinned (OpenSpec.upto fnExactNeighborsOfSpec)

/-- 'laws.FnExactLinkOf', WHERE WHAT IT READS IS OF BULK AT MOST 1048576: true; the input reads as it did. -/
def fnExactLinkOfUptoRow : OpenClaim := { program := "ytfoongjohohhnaa", sum := "9129cbf8dea59be5834150d3b8074ece379ab1b9e437524bf64dc35c67a08f40", func := "loop.example/g00810/laws.FnExactLinkOf", spec := "fnExactLinkOf", apart := false, narrowed := true }
def FnExactLinkOfUptoSaid : Prop := fnExactLinkOfUptoRow.holds Try.pinned (OpenSpec.upto fnExactLinkOfSpec)

/-- 'laws.FnExactWithoutNode', WHERE WHAT IT READS IS OF BULK AT MOST 1048576: true; the input reads as it did. -/
def fnExactWithoutNodeUptoRow : OpenClaim := { program := "ytfoongjohohhnaa", sum := "9129cbf8dea59be5834150d3b8074ece379ab1b9e437524bf64dc35c67a08f40", func := "loop.example/g00810/laws.FnExactWithoutNode", spec := "fnExactWithoutNode", apart := false, narrowed := true }
def FnExactWithoutNodeUptoSaid : Prop := fnExactWithoutNodeUptoRow.holds Try.pinned (OpenSpec.upto fnExactWithoutNodeSpec)

/-- 'laws.FnExactOrderOf', WHERE WHAT IT READS IS OF BULK AT MOST 1048576: true; the input reads as it did. -/
def fnExactOrderOfUptoRow : OpenClaim := { program := "ytfoongjohohhnaa", sum := "9129cbf8dea59be5834150d3b8074ece379ab1b9e437524bf64dc35c67a08f40", func := "loop.example/g00810/laws.FnExactOrderOf", spec := "fnExactOrderOf", apart := false, narrowed := true }
def FnExactOrderOfUptoSaid : Prop := fnExactOrderOfUptoRow.holds Try.pinned (OpenSpec.upto fnExactOrderOfSpec)

end Rows
end Go.Proofs.Ytfoongjohohhnaa
