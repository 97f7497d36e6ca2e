/-
  No cell of these rows narrows 'for every input' (looked for: loops, veiled, ifaces, maps, wideKeys, modest, calm, conditions, laid).
  DERIVED. THE GIVEN ROWS OF THIS SEAT. 5 by the template 'for every input the law returns true; each argument reads behind the call as it read before'; 0 by the template 'total and deterministic' (their statements: YtcbjeplncppmhaaTotals.lean).
  GIVEN WITH THE SEED: the statements are not yours to turn. If you find one false, say at which input.
  Laid BY PROGRAM, IN A SANDBOX (cutbox-rows.mjs): the forced cells as the released guide's own fill.sh prints them over the translation 8986e2d5a0f37751… (all of the seat's roots in one cut). By AI agents, Wed Nov 11 2026. No macro, syntax, notation, axiom, sorry.
-/
import Derived.Test.YtcbjeplncppmhaaChecked
import GoSem.Claim
import GoSem.ClaimJoined
import GoSem.ClaimMapViews
import Derived.JoinedTies
import Derived.KernelRfl
namespace Go.Proofs.Ytcbjeplncppmhaa
/- THE CELL 'sum', in the pinned program and in every row, IS THE sha256 OF THE DUMP (.gsa) THAT YtcbjeplncppmhaaProg.lean LOADS. Nothing in Lean hashes anything: it is a label: what it is worth is what the hold of that sum in a sandbox is worth. -/
noncomputable def Try.pinned : Pinned := { name := "ytcbjeplncppmhaa", sum := "8986e2d5a0f3775126cd5f1958fd2eca32cce8e4df86d468042229a91ee258d4", checked := Try.checked }
namespace Rows
def none {H : Type} : Left H := { results := [], args := [] }

/-- 'laws.FnExactOrderOf': WHATEVER THE INPUT: true; the input reads as it did. -/
def fnExactOrderOfSpec : ChangeSpec := { name := "fnExactOrderOf", fn := fun _ => fun
  | [d] => { results := [.lit (.bool true)], args := [d] }
  | _ => none }
def fnExactOrderOfRow : OpenClaim := { program := "ytcbjeplncppmhaa", sum := "8986e2d5a0f3775126cd5f1958fd2eca32cce8e4df86d468042229a91ee258d4", func := "loop.example/g00810/laws.FnExactOrderOf", spec := "fnExactOrderOf", apart := false }
def FnExactOrderOfSaid : Prop := fnExactOrderOfRow.holds Try.pinned (OpenSpec.ofChange fnExactOrderOfSpec)

/-- ITS FALSE NEIGHBOUR: 'it returns false'. Refute it at one input. -/
def fnExactOrderOfWrong : ChangeSpec := { name := "fnExactOrderOf", fn := fun _ => fun
  | [d] => { results := [.lit (.bool false)], args := [d] }
  | _ => none }
def FnExactOrderOfWrongFalsely : Prop := fnExactOrderOfRow.holds Try.pinned (OpenSpec.ofChange fnExactOrderOfWrong)

/-- 'laws.FnExactIsValidLink': WHATEVER THE INPUT: true; the input reads as it did. -/
def fnExactIsValidLinkSpec : ChangeSpec := { name := "fnExactIsValidLink", fn := fun _ => fun
  | [d] => { results := [.lit (.bool true)], args := [d] }
  | _ => none }
def fnExactIsValidLinkRow : OpenClaim := { program := "ytcbjeplncppmhaa", sum := "8986e2d5a0f3775126cd5f1958fd2eca32cce8e4df86d468042229a91ee258d4", func := "loop.example/g00810/laws.FnExactIsValidLink", spec := "fnExactIsValidLink", apart := false }
def FnExactIsValidLinkSaid : Prop := fnExactIsValidLinkRow.holds Try.pinned (OpenSpec.ofChange fnExactIsValidLinkSpec)

/-- ITS FALSE NEIGHBOUR: 'it returns false'. Refute it at one input. -/
def fnExactIsValidLinkWrong : ChangeSpec := { name := "fnExactIsValidLink", fn := fun _ => fun
  | [d] => { results := [.lit (.bool false)], args := [d] }
  | _ => none }
def FnExactIsValidLinkWrongFalsely : Prop := fnExactIsValidLinkRow.holds Try.pinned (OpenSpec.ofChange fnExactIsValidLinkWrong)

/-- 'laws.FnExactSameTree': WHATEVER THE INPUT: true; the input reads as it did. -/
def fnExactSameTreeSpec : ChangeSpec := { name := "fnExactSameTree", fn := fun _ => fun
  | [d1, d2] => { results := [.lit (.bool true)], args := [d1, d2] }
  | _ => none }
def fnExactSameTreeRow : OpenClaim := { program := "ytcbjeplncppmhaa", sum := "8986e2d5a0f3775126cd5f1958fd2eca32cce8e4df86d468042229a91ee258d4", func := "loop.example/g00810/laws.FnExactSameTree", spec := "fnExactSameTree", apart := false }
def FnExactSameTreeSaid : Prop := fnExactSameTreeRow.holds Try.pinned (OpenSpec.ofChange fnExactSameTreeSpec)

/-- ITS FALSE NEIGHBOUR: 'it returns false'. Refute it at one input. -/
def fnExactSameTreeWrong : ChangeSpec := { name := "fnExactSameTree", fn := fun _ => fun
  | [d1, d2] => { results := [.lit (.bool false)], args := [d1, d2] }
  | _ => none }
def FnExactSameTreeWrongFalsely : Prop := fnExactSameTreeRow.holds Try.pinned (OpenSpec.ofChange fnExactSameTreeWrong)

/-- 'laws.FnJoin': WHATEVER THE INPUT: true; the input reads as it did. -/
def fnJoinSpec : ChangeSpec := { name := "fnJoin", fn := fun _ => fun
  | [d] => { results := [.lit (.bool true)], args := [d] }
  | _ => none }
def fnJoinRow : OpenClaim := { program := "ytcbjeplncppmhaa", sum := "8986e2d5a0f3775126cd5f1958fd2eca32cce8e4df86d468042229a91ee258d4", func := "loop.example/g00810/laws.FnJoin", spec := "fnJoin", apart := false }
def FnJoinSaid : Prop := fnJoinRow.holds Try.pinned (OpenSpec.ofChange fnJoinSpec)

/-- ITS FALSE NEIGHBOUR: 'it returns false'. Refute it at one input. -/
def fnJoinWrong : ChangeSpec := { name := "fnJoin", fn := fun _ => fun
  | [d] => { results := [.lit (.bool false)], args := [d] }
  | _ => none }
def FnJoinWrongFalsely : Prop := fnJoinRow.holds Try.pinned (OpenSpec.ofChange fnJoinWrong)

/-- 'laws.FnExactIsMatrix': WHATEVER THE INPUT: true; the input reads as it did. -/
def fnExactIsMatrixSpec : ChangeSpec := { name := "fnExactIsMatrix", fn := fun _ => fun
  | [d1, d2] => { results := [.lit (.bool true)], args := [d1, d2] }
  | _ => none }
def fnExactIsMatrixRow : OpenClaim := { program := "ytcbjeplncppmhaa", sum := "8986e2d5a0f3775126cd5f1958fd2eca32cce8e4df86d468042229a91ee258d4", func := "loop.example/g00810/laws.FnExactIsMatrix", spec := "fnExactIsMatrix", apart := false }
def FnExactIsMatrixSaid : Prop := fnExactIsMatrixRow.holds Try.pinned (OpenSpec.ofChange fnExactIsMatrixSpec)

/-- ITS FALSE NEIGHBOUR: 'it returns false'. Refute it at one input. -/
def fnExactIsMatrixWrong : ChangeSpec := { name := "fnExactIsMatrix", fn := fun _ => fun
  | [d1, d2] => { results := [.lit (.bool false)], args := [d1, d2] }
  | _ => none }
def FnExactIsMatrixWrongFalsely : Prop := fnExactIsMatrixRow.holds Try.pinned (OpenSpec.ofChange fnExactIsMatrixWrong)

/- THE SECOND FORM. 'bulk': how many values and letters a reading holds, each counted each time it is reached (what is shared counts as often as it is met; a slice's spare places count too). A statement '..UptoSaid' is the law's where the arguments, and the package variables that the reading takes, are together of bulk at most 1048576: NARROWER than '..Said'. Prove '..Said' where nothing that the law and all that it calls make is longer than what came in: it says more and counts as full. Else prove '..UptoSaid'. A law counts once. -/
mutual
def uptoBulk {H : Type} : DataW H → Nat
  | .lit (.string bytes) => bytes.length + 1
  | .lit _ => 1
  | .nil => 1
  | .ptr d => uptoBulk d + 1
  | .slice elems spare => uptoBulkAll elems + uptoBulkAll spare + 1
  | .agg parts => uptoBulkAll parts + 1
  | .iface _ d => uptoBulk d + 1
  | .map entries => uptoBulkEntries entries + 1
  | .held _ => 1
def uptoBulkAll {H : Type} : List (DataW H) → Nat
  | [] => 0
  | d :: r => uptoBulk d + uptoBulkAll r
def uptoBulkEntries {H : Type} : List (Lit × DataW H) → Nat
  | [] => 0
  | x :: r => uptoBulkEntry x + uptoBulkEntries r
def uptoBulkEntry {H : Type} : Lit × DataW H → Nat
  | (.string bytes, d) => bytes.length + uptoBulk d + 1
  | (_, d) => uptoBulk d + 1
 end
def uptoSmall : (H : Type) → List (DataW H) → Bool := fun _ ds => decide (uptoBulkAll ds ≤ 1048576)
def OpenSpec.upto (s : _root_.Go.ChangeSpec) : _root_.Go.OpenSpec := { _root_.Go.OpenSpec.ofChange s with cond := some uptoSmall }

/-- 'laws.FnExactOrderOf', WHERE WHAT IT READS IS OF BULK AT MOST 1048576: true; the input reads as it did. -/
def fnExactOrderOfUptoRow : OpenClaim := { program := "ytcbjeplncppmhaa", sum := "8986e2d5a0f3775126cd5f1958fd2eca32cce8e4df86d468042229a91ee258d4", func := "loop.example/g00810/laws.FnExactOrderOf", spec := "fnExactOrderOf", apart := false, narrowed := true }
def FnExactOrderOfUptoSaid : Prop := fnExactOrderOfUptoRow.holds Try.pinned (OpenSpec.upto fnExactOrderOfSpec)

/-- 'laws.FnExactIsValidLink', WHERE WHAT IT READS IS OF BULK AT MOST 1048576: true; the input reads as it did. -/
def fnExactIsValidLinkUptoRow : OpenClaim := { program := "ytcbjeplncppmhaa", sum := "8986e2d5a0f3775126cd5f1958fd2eca32cce8e4df86d468042229a91ee258d4", func := "loop.example/g00810/laws.FnExactIsValidLink", spec := "fnExactIsValidLink", apart := false, narrowed := true }
def FnExactIsValidLinkUptoSaid : Prop := fnExactIsValidLinkUptoRow.holds Try.pinned (OpenSpec.upto fnExactIsValidLinkSpec)

/-- 'laws.FnExactSameTree', WHERE WHAT IT READS IS OF BULK AT MOST 1048576: true; the input reads as it did. -/
def fnExactSameTreeUptoRow : OpenClaim := { program := "ytcbjeplncppmhaa", sum := "8986e2d5a0f3775126cd5f1958fd2eca32cce8e4df86d468042229a91ee258d4", func := "loop.example/g00810/laws.FnExactSameTree", spec := "fnExactSameTree", apart := false, narrowed := true }
def FnExactSameTreeUptoSaid : Prop := fnExactSameTreeUptoRow.holds Try.pinned (OpenSpec.upto fnExactSameTreeSpec)

/-- 'laws.FnJoin', WHERE WHAT IT READS IS OF BULK AT MOST 1048576: true; the input reads as it did. -/
def fnJoinUptoRow : OpenClaim := { program := "ytcbjeplncppmhaa", sum := "8986e2d5a0f3775126cd5f1958fd2eca32cce8e4df86d468042229a91ee258d4", func := "loop.example/g00810/laws.FnJoin", spec := "fnJoin", apart := false, narrowed := true }
def FnJoinUptoSaid : Prop := fnJoinUptoRow.holds Try.pinned (OpenSpec.upto fnJoinSpec)

/-- 'laws.FnExactIsMatrix', WHERE WHAT IT READS IS OF BULK AT MOST 1048576: true; the input reads as it did. -/
def fnExactIsMatrixUptoRow : OpenClaim := { program := "ytcbjeplncppmhaa", sum := "8986e2d5a0f3775126cd5f1958fd2eca32cce8e4df86d468042229a91ee258d4", func := "loop.example/g00810/laws.FnExactIsMatrix", spec := "fnExactIsMatrix", apart := false, narrowed := true }
def FnExactIsMatrixUptoSaid : Prop := fnExactIsMatrixUptoRow.holds Try.pinned (OpenSpec.upto fnExactIsMatrixSpec)

end Rows
end Go.Proofs.Ytcbjeplncppmhaa
