/-
  No cell of these rows narrows 'for every input' (looked for: loops, veiled, ifaces, maps, wideKeys, modest, calm, conditions, laid).
  DERIVED. THE GIVEN ROWS OF THIS SEAT. 5 by the template 'for every input the law returns true; each argument reads behind the call as it read before'; 0 by the template 'total and deterministic' (their statements: YtcbjeplncppmhabTotals.lean).
  GIVEN WITH THE SEED: the statements are not yours to turn. If you find one false, say at which input.
  Laid BY PROGRAM, IN A SANDBOX (cutbox-rows.mjs): the forced cells as the released guide's own fill.sh prints them over the translation 14c40a189454d075… (all of the seat's roots in one cut). By AI agents, Wed Nov 11 2026. No macro, syntax, notation, axiom, sorry.
-/
import Derived.Test.YtcbjeplncppmhabChecked
import GoSem.Claim
import GoSem.ClaimJoined
import GoSem.ClaimMapViews
import Derived.JoinedTies
import Derived.KernelRfl
namespace Go.Proofs.Ytcbjeplncppmhab
/- THE CELL 'sum', in the pinned program and in every row, IS THE sha256 OF THE DUMP (.gsa) THAT YtcbjeplncppmhabProg.lean LOADS. Nothing in Lean hashes anything: it is a label: what it is worth is what the hold of that sum in a sandbox is worth. -/
noncomputable def Try.pinned : Pinned := { name := "ytcbjeplncppmhab", sum := "14c40a189454d075d3004ea197a047d97bf0d77b75902ab1192c2a01d9498ff5", checked := Try.checked }
namespace Rows
def none {H : Type} : Left H := { results := [], args := [] }

/-- 'laws.FnExactIsLinkSet': WHATEVER THE INPUT: true; the input reads as it did. -/
def fnExactIsLinkSetSpec : ChangeSpec := { name := "fnExactIsLinkSet", fn := fun _ => fun
  | [d] => { results := [.lit (.bool true)], args := [d] }
  | _ => none }
def fnExactIsLinkSetRow : OpenClaim := { program := "ytcbjeplncppmhab", sum := "14c40a189454d075d3004ea197a047d97bf0d77b75902ab1192c2a01d9498ff5", func := "loop.example/g00810/laws.FnExactIsLinkSet", spec := "fnExactIsLinkSet", apart := false }
def FnExactIsLinkSetSaid : Prop := fnExactIsLinkSetRow.holds Try.pinned (OpenSpec.ofChange fnExactIsLinkSetSpec)

/-- ITS FALSE NEIGHBOUR: 'it returns false'. Refute it at one input. -/
def fnExactIsLinkSetWrong : ChangeSpec := { name := "fnExactIsLinkSet", fn := fun _ => fun
  | [d] => { results := [.lit (.bool false)], args := [d] }
  | _ => none }
def FnExactIsLinkSetWrongFalsely : Prop := fnExactIsLinkSetRow.holds Try.pinned (OpenSpec.ofChange fnExactIsLinkSetWrong)

/-- 'laws.FnMerge': WHATEVER THE INPUT: true; the input reads as it did. -/
def fnMergeSpec : ChangeSpec := { name := "fnMerge", fn := fun _ => fun
  | [d] => { results := [.lit (.bool true)], args := [d] }
  | _ => none }
def fnMergeRow : OpenClaim := { program := "ytcbjeplncppmhab", sum := "14c40a189454d075d3004ea197a047d97bf0d77b75902ab1192c2a01d9498ff5", func := "loop.example/g00810/laws.FnMerge", spec := "fnMerge", apart := false }
def FnMergeSaid : Prop := fnMergeRow.holds Try.pinned (OpenSpec.ofChange fnMergeSpec)

/-- ITS FALSE NEIGHBOUR: 'it returns false'. Refute it at one input. -/
def fnMergeWrong : ChangeSpec := { name := "fnMerge", fn := fun _ => fun
  | [d] => { results := [.lit (.bool false)], args := [d] }
  | _ => none }
def FnMergeWrongFalsely : Prop := fnMergeRow.holds Try.pinned (OpenSpec.ofChange fnMergeWrong)

/-- 'laws.FnExactIsOrder': WHATEVER THE INPUT: true; the input reads as it did. -/
def fnExactIsOrderSpec : ChangeSpec := { name := "fnExactIsOrder", fn := fun _ => fun
  | [d1, d2] => { results := [.lit (.bool true)], args := [d1, d2] }
  | _ => none }
def fnExactIsOrderRow : OpenClaim := { program := "ytcbjeplncppmhab", sum := "14c40a189454d075d3004ea197a047d97bf0d77b75902ab1192c2a01d9498ff5", func := "loop.example/g00810/laws.FnExactIsOrder", spec := "fnExactIsOrder", apart := false }
def FnExactIsOrderSaid : Prop := fnExactIsOrderRow.holds Try.pinned (OpenSpec.ofChange fnExactIsOrderSpec)

/-- ITS FALSE NEIGHBOUR: 'it returns false'. Refute it at one input. -/
def fnExactIsOrderWrong : ChangeSpec := { name := "fnExactIsOrder", fn := fun _ => fun
  | [d1, d2] => { results := [.lit (.bool false)], args := [d1, d2] }
  | _ => none }
def FnExactIsOrderWrongFalsely : Prop := fnExactIsOrderRow.holds Try.pinned (OpenSpec.ofChange fnExactIsOrderWrong)

/-- 'laws.FnExactNodesOf': WHATEVER THE INPUT: true; the input reads as it did. -/
def fnExactNodesOfSpec : ChangeSpec := { name := "fnExactNodesOf", fn := fun _ => fun
  | [d] => { results := [.lit (.bool true)], args := [d] }
  | _ => none }
def fnExactNodesOfRow : OpenClaim := { program := "ytcbjeplncppmhab", sum := "14c40a189454d075d3004ea197a047d97bf0d77b75902ab1192c2a01d9498ff5", func := "loop.example/g00810/laws.FnExactNodesOf", spec := "fnExactNodesOf", apart := false }
def FnExactNodesOfSaid : Prop := fnExactNodesOfRow.holds Try.pinned (OpenSpec.ofChange fnExactNodesOfSpec)

/-- ITS FALSE NEIGHBOUR: 'it returns false'. Refute it at one input. -/
def fnExactNodesOfWrong : ChangeSpec := { name := "fnExactNodesOf", fn := fun _ => fun
  | [d] => { results := [.lit (.bool false)], args := [d] }
  | _ => none }
def FnExactNodesOfWrongFalsely : Prop := fnExactNodesOfRow.holds Try.pinned (OpenSpec.ofChange fnExactNodesOfWrong)

/-- 'laws.FnExactNeighborsOf': WHATEVER THE INPUT: true; the input reads as it did. -/
def fnExactNeighborsOfSpec : ChangeSpec := { name := "fnExactNeighborsOf", fn := fun _ => fun
  | [d1, d2] => { results := [.lit (.bool true)], args := [d1, d2] }
  | _ => none }
def fnExactNeighborsOfRow : OpenClaim := { program := "ytcbjeplncppmhab", sum := "14c40a189454d075d3004ea197a047d97bf0d77b75902ab1192c2a01d9498ff5", func := "loop.example/g00810/laws.FnExactNeighborsOf", spec := "fnExactNeighborsOf", apart := false }
def FnExactNeighborsOfSaid : Prop := fnExactNeighborsOfRow.holds Try.pinned (OpenSpec.ofChange fnExactNeighborsOfSpec)

/-- ITS FALSE NEIGHBOUR: 'it returns false'. Refute it at one input. -/
def fnExactNeighborsOfWrong : ChangeSpec := { name := "fnExactNeighborsOf", fn := fun _ => fun
  | [d1, d2] => { results := [.lit (.bool false)], args := [d1, d2] }
  | _ => none }
def FnExactNeighborsOfWrongFalsely : Prop := fnExactNeighborsOfRow.holds Try.pinned (OpenSpec.ofChange fnExactNeighborsOfWrong)

/- THE SECOND FORM. 'bulk': how many values and letters a reading holds, each counted each time it is reached (what is shared counts as often as it is met; a slice's spare places count too). A statement '..UptoSaid' is the law's where the arguments, and the package variables that the reading takes, are together of bulk at most 1048576: NARROWER than '..Said'. Prove '..Said' where nothing that the law and all that it calls make is longer than what came in: it says more and counts as full. Else prove '..UptoSaid'. A law counts once. -/
mutual
def uptoBulk {H : Type} : DataW H → Nat
  | .lit (.string bytes) => bytes.length + 1
  | .lit _ => 1
  | .nil => 1
  | .ptr d => uptoBulk d + 1
  | .slice elems spare => uptoBulkAll elems + uptoBulkAll spare + 1
  | .agg parts => uptoBulkAll parts + 1
  | .iface _ d => uptoBulk d + 1
  | .map entries => uptoBulkEntries entries + 1
  | .held _ => 1
def uptoBulkAll {H : Type} : List (DataW H) → Nat
  | [] => 0
  | d :: r => uptoBulk d + uptoBulkAll r
def uptoBulkEntries {H : Type} : List (Lit × DataW H) → Nat
  | [] => 0
  | x :: r => uptoBulkEntry x + uptoBulkEntries r
def uptoBulkEntry {H : Type} : Lit × DataW H → Nat
  | (.string bytes, d) => bytes.length + uptoBulk d + 1
  | (_, d) => uptoBulk d + 1
 end
def uptoSmall : (H : Type) → List (DataW H) → Bool := fun _ ds => decide (uptoBulkAll ds ≤ 1048576)
def OpenSpec.upto (s : _root_.Go.ChangeSpec) : _root_.Go.OpenSpec := { _root_.Go.OpenSpec.ofChange s with cond := some uptoSmall }

/-- 'laws.FnExactIsLinkSet', WHERE WHAT IT READS IS OF BULK AT MOST 1048576: true; the input reads as it did. -/
def fnExactIsLinkSetUptoRow : OpenClaim := { program := "ytcbjeplncppmhab", sum := "14c40a189454d075d3004ea197a047d97bf0d77b75902ab1192c2a01d9498ff5", func := "loop.example/g00810/laws.FnExactIsLinkSet", spec := "fnExactIsLinkSet", apart := false, narrowed := true }
def FnExactIsLinkSetUptoSaid : Prop := fnExactIsLinkSetUptoRow.holds Try.pinned (OpenSpec.upto fnExactIsLinkSetSpec)

/-- 'laws.FnMerge', WHERE WHAT IT READS IS OF BULK AT MOST 1048576: true; the input reads as it did. -/
def fnMergeUptoRow : OpenClaim := { program := "ytcbjeplncppmhab", sum := "14c40a189454d075d3004ea197a047d97bf0d77b75902ab1192c2a01d9498ff5", func := "loop.example/g00810/laws.FnMerge", spec := "fnMerge", apart := false, narrowed := true }
def FnMergeUptoSaid : Prop := fnMergeUptoRow.holds Try.pinned (OpenSpec.upto fnMergeSpec)

/-- 'laws.FnExactIsOrder', WHERE WHAT IT READS IS OF BULK AT MOST 1048576: true; the input reads as it did. -/
def fnExactIsOrderUptoRow : OpenClaim := { program := "ytcbjeplncppmhab", sum := "14c40a189454d075d3004ea197a047d97bf0d77b75902ab1192c2a01d9498ff5", func := "loop.example/g00810/laws.FnExactIsOrder", spec := "fnExactIsOrder", apart := false, narrowed := true }
def FnExactIsOrderUptoSaid : Prop := fnExactIsOrderUptoRow.holds Try.pinned (OpenSpec.upto fnExactIsOrderSpec)

/-- 'laws.FnExactNodesOf', WHERE WHAT IT READS IS OF BULK AT MOST 1048576: true; the input reads as it did. -/
def fnExactNodesOfUptoRow : OpenClaim := { program := "ytcbjeplncppmhab", sum := "14c40a189454d075d3004ea197a047d97bf0d77b75902ab1192c2a01d9498ff5", func := "loop.example/g00810/laws.FnExactNodesOf", spec := "fnExactNodesOf", apart := false, narrowed := true }
def FnExactNodesOfUptoSaid : Prop := fnExactNodesOfUptoRow.holds Try.pinned (OpenSpec.upto fnExactNodesOfSpec)

/-- 'laws.FnExactNeighborsOf', WHERE WHAT IT READS IS OF BULK AT MOST 1048576: true; the input reads as it did. -/
def fnExactNeighborsOfUptoRow : OpenClaim := { program := "ytcbjeplncppmhab", sum := "14c40a189454d075d3004ea197a047d97bf0d77b75902ab1192c2a01d9498ff5", func := "loop.example/g00810/laws.FnExactNeighborsOf", spec := "fnExactNeighborsOf", apart := false, narrowed := true }
def FnExactNeighborsOfUptoSaid : Prop := fnExactNeighborsOfUptoRow.holds Try.pinned (OpenSpec.upto fnExactNeighborsOfSpec)

end Rows
end Go.Proofs.Ytcbjeplncppmhab
