/-
  No cell of these rows narrows 'for every input' (looked for: loops, veiled, ifaces, maps, wideKeys, modest, calm, conditions, laid).
  DERIVED. THE GIVEN ROWS OF THIS SEAT. 6 by the template 'for every input the law returns true; each argument reads behind the call as it read before'; 0 by the template 'total and deterministic' (their statements: YtldphoheoiochaaTotals.lean).
  GIVEN WITH THE SEED: the statements are not yours to turn. If you find one false, say at which input.
  Laid BY PROGRAM, IN A SANDBOX (cutbox-rows.mjs): the forced cells as the released guide's own fill.sh prints them over the translation d9b86aafd2a001a3… (all of the seat's roots in one cut). By AI agents, Wed Nov 11 2026. No macro, syntax, notation, axiom, sorry.
-/
import Derived.Test.YtldphoheoiochaaChecked
import GoSem.Claim
import GoSem.ClaimJoined
import GoSem.ClaimMapViews
import Derived.JoinedTies
import Derived.KernelRfl
namespace Go.Proofs.Ytldphoheoiochaa
/- THE CELL 'sum', in the pinned program and in every row, IS THE sha256 OF THE DUMP (.gsa) THAT YtldphoheoiochaaProg.lean LOADS. Nothing in Lean hashes anything: it is a label: what it is worth is what the hold of that sum in a sandbox is worth. -/
noncomputable def Try.pinned : Pinned := { name := "ytldphoheoiochaa", sum := "d9b86aafd2a001a3d5544e0bfe923c1a920c3c369c90f537f5321c4c36a90fc4", checked := Try.checked }
namespace Rows
def none {H : Type} : Left H := { results := [], args := [] }

/-- 'laws.FnMerge': WHATEVER THE INPUT: true; the input reads as it did. -/
def fnMergeSpec : ChangeSpec := { name := "fnMerge", fn := fun _ => fun
  | [d] => { results := [.lit (.bool true)], args := [d] }
  | _ => none }
def fnMergeRow : OpenClaim := { program := "ytldphoheoiochaa", sum := "d9b86aafd2a001a3d5544e0bfe923c1a920c3c369c90f537f5321c4c36a90fc4", func := "loop.example/g00810/laws.FnMerge", spec := "fnMerge", apart := false }
def FnMergeSaid : Prop := fnMergeRow.holds Try.pinned (OpenSpec.ofChange fnMergeSpec)

/-- ITS FALSE NEIGHBOUR: 'it returns false'. Refute it at one input. -/
def fnMergeWrong : ChangeSpec := { name := "fnMerge", fn := fun _ => fun
  | [d] => { results := [.lit (.bool false)], args := [d] }
  | _ => none }
def FnMergeWrongFalsely : Prop := fnMergeRow.holds Try.pinned (OpenSpec.ofChange fnMergeWrong)

/-- 'laws.FnExactFillCount': WHATEVER THE INPUT: true; the input reads as it did. -/
def fnExactFillCountSpec : ChangeSpec := { name := "fnExactFillCount", fn := fun _ => fun
  | [d1, d2] => { results := [.lit (.bool true)], args := [d1, d2] }
  | _ => none }
def fnExactFillCountRow : OpenClaim := { program := "ytldphoheoiochaa", sum := "d9b86aafd2a001a3d5544e0bfe923c1a920c3c369c90f537f5321c4c36a90fc4", func := "loop.example/g00810/laws.FnExactFillCount", spec := "fnExactFillCount", apart := false }
def FnExactFillCountSaid : Prop := fnExactFillCountRow.holds Try.pinned (OpenSpec.ofChange fnExactFillCountSpec)

/-- ITS FALSE NEIGHBOUR: 'it returns false'. Refute it at one input. -/
def fnExactFillCountWrong : ChangeSpec := { name := "fnExactFillCount", fn := fun _ => fun
  | [d1, d2] => { results := [.lit (.bool false)], args := [d1, d2] }
  | _ => none }
def FnExactFillCountWrongFalsely : Prop := fnExactFillCountRow.holds Try.pinned (OpenSpec.ofChange fnExactFillCountWrong)

/-- 'laws.FnExactBestFill': WHATEVER THE INPUT: true; the input reads as it did. -/
def fnExactBestFillSpec : ChangeSpec := { name := "fnExactBestFill", fn := fun _ => fun
  | [d] => { results := [.lit (.bool true)], args := [d] }
  | _ => none }
def fnExactBestFillRow : OpenClaim := { program := "ytldphoheoiochaa", sum := "d9b86aafd2a001a3d5544e0bfe923c1a920c3c369c90f537f5321c4c36a90fc4", func := "loop.example/g00810/laws.FnExactBestFill", spec := "fnExactBestFill", recurses := true, apart := false }
def FnExactBestFillSaid : Prop := fnExactBestFillRow.holds Try.pinned (OpenSpec.ofChange fnExactBestFillSpec)

/-- ITS FALSE NEIGHBOUR: 'it returns false'. Refute it at one input. -/
def fnExactBestFillWrong : ChangeSpec := { name := "fnExactBestFill", fn := fun _ => fun
  | [d] => { results := [.lit (.bool false)], args := [d] }
  | _ => none }
def FnExactBestFillWrongFalsely : Prop := fnExactBestFillRow.holds Try.pinned (OpenSpec.ofChange fnExactBestFillWrong)

/-- 'laws.FnExactEliminationTree': WHATEVER THE INPUT: true; the input reads as it did. -/
def fnExactEliminationTreeSpec : ChangeSpec := { name := "fnExactEliminationTree", fn := fun _ => fun
  | [d1, d2] => { results := [.lit (.bool true)], args := [d1, d2] }
  | _ => none }
def fnExactEliminationTreeRow : OpenClaim := { program := "ytldphoheoiochaa", sum := "d9b86aafd2a001a3d5544e0bfe923c1a920c3c369c90f537f5321c4c36a90fc4", func := "loop.example/g00810/laws.FnExactEliminationTree", spec := "fnExactEliminationTree", apart := false }
def FnExactEliminationTreeSaid : Prop := fnExactEliminationTreeRow.holds Try.pinned (OpenSpec.ofChange fnExactEliminationTreeSpec)

/-- ITS FALSE NEIGHBOUR: 'it returns false'. Refute it at one input. -/
def fnExactEliminationTreeWrong : ChangeSpec := { name := "fnExactEliminationTree", fn := fun _ => fun
  | [d1, d2] => { results := [.lit (.bool false)], args := [d1, d2] }
  | _ => none }
def FnExactEliminationTreeWrongFalsely : Prop := fnExactEliminationTreeRow.holds Try.pinned (OpenSpec.ofChange fnExactEliminationTreeWrong)

/-- 'laws.FnExactMergeLinks': WHATEVER THE INPUT: true; the input reads as it did. -/
def fnExactMergeLinksSpec : ChangeSpec := { name := "fnExactMergeLinks", fn := fun _ => fun
  | [d1, d2] => { results := [.lit (.bool true)], args := [d1, d2] }
  | _ => none }
def fnExactMergeLinksRow : OpenClaim := { program := "ytldphoheoiochaa", sum := "d9b86aafd2a001a3d5544e0bfe923c1a920c3c369c90f537f5321c4c36a90fc4", func := "loop.example/g00810/laws.FnExactMergeLinks", spec := "fnExactMergeLinks", apart := false }
def FnExactMergeLinksSaid : Prop := fnExactMergeLinksRow.holds Try.pinned (OpenSpec.ofChange fnExactMergeLinksSpec)

/-- ITS FALSE NEIGHBOUR: 'it returns false'. Refute it at one input. -/
def fnExactMergeLinksWrong : ChangeSpec := { name := "fnExactMergeLinks", fn := fun _ => fun
  | [d1, d2] => { results := [.lit (.bool false)], args := [d1, d2] }
  | _ => none }
def FnExactMergeLinksWrongFalsely : Prop := fnExactMergeLinksRow.holds Try.pinned (OpenSpec.ofChange fnExactMergeLinksWrong)

/-- 'laws.FnExactMinDegreeOrder': WHATEVER THE INPUT: true; the input reads as it did. -/
def fnExactMinDegreeOrderSpec : ChangeSpec := { name := "fnExactMinDegreeOrder", fn := fun _ => fun
  | [d1, d2] => { results := [.lit (.bool true)], args := [d1, d2] }
  | _ => none }
def fnExactMinDegreeOrderRow : OpenClaim := { program := "ytldphoheoiochaa", sum := "d9b86aafd2a001a3d5544e0bfe923c1a920c3c369c90f537f5321c4c36a90fc4", func := "loop.example/g00810/laws.FnExactMinDegreeOrder", spec := "fnExactMinDegreeOrder", apart := false }
def FnExactMinDegreeOrderSaid : Prop := fnExactMinDegreeOrderRow.holds Try.pinned (OpenSpec.ofChange fnExactMinDegreeOrderSpec)

/-- ITS FALSE NEIGHBOUR: 'it returns false'. Refute it at one input. -/
def fnExactMinDegreeOrderWrong : ChangeSpec := { name := "fnExactMinDegreeOrder", fn := fun _ => fun
  | [d1, d2] => { results := [.lit (.bool false)], args := [d1, d2] }
  | _ => none }
def FnExactMinDegreeOrderWrongFalsely : Prop := fnExactMinDegreeOrderRow.holds Try.pinned (OpenSpec.ofChange fnExactMinDegreeOrderWrong)

/- THE SECOND FORM. 'bulk': how many values and letters a reading holds, each counted each time it is reached (what is shared counts as often as it is met; a slice's spare places count too). A statement '..UptoSaid' is the law's where the arguments, and the package variables that the reading takes, are together of bulk at most 1048576: NARROWER than '..Said'. Prove '..Said' where nothing that the law and all that it calls make is longer than what came in: it says more and counts as full. Else prove '..UptoSaid'. A law counts once. -/
mutual
def uptoBulk {H : Type} : DataW H → Nat
  | .lit (.string bytes) => bytes.length + 1
  | .lit _ => 1
  | .nil => 1
  | .ptr d => uptoBulk d + 1
  | .slice elems spare => uptoBulkAll elems + uptoBulkAll spare + 1
  | .agg parts => uptoBulkAll parts + 1
  | .iface _ d => uptoBulk d + 1
  | .map entries => uptoBulkEntries entries + 1
  | .held _ => 1
def uptoBulkAll {H : Type} : List (DataW H) → Nat
  | [] => 0
  | d :: r => uptoBulk d + uptoBulkAll r
def uptoBulkEntries {H : Type} : List (Lit × DataW H) → Nat
  | [] => 0
  | x :: r => uptoBulkEntry x + uptoBulkEntries r
def uptoBulkEntry {H : Type} : Lit × DataW H → Nat
  | (.string bytes, d) => bytes.length + uptoBulk d + 1
  | (_, d) => uptoBulk d + 1
 end
def uptoSmall : (H : Type) → List (DataW H) → Bool := fun _ ds => decide (uptoBulkAll ds ≤ 1048576)
def OpenSpec.upto (s : _root_.Go.ChangeSpec) : _root_.Go.OpenSpec := { _root_.Go.OpenSpec.ofChange s with cond := some uptoSmall }

/-- 'laws.FnMerge', WHERE WHAT IT READS IS OF BULK AT MOST 1048576: true; the input reads as it did. -/
def fnMergeUptoRow : OpenClaim := { program := "ytldphoheoiochaa", sum := "d9b86aafd2a001a3d5544e0bfe923c1a920c3c369c90f537f5321c4c36a90fc4", func := "loop.example/g00810/laws.FnMerge", spec := "fnMerge", apart := false, narrowed := true }
def FnMergeUptoSaid : Prop := fnMergeUptoRow.holds Try.pinned (OpenSpec.upto fnMergeSpec)

/-- 'laws.FnExactFillCount', WHERE WHAT IT READS IS OF BULK AT MOST 1048576: true; the input reads as it did. -/
def fnExactFillCountUptoRow : OpenClaim := { program := "ytldphoheoiochaa", sum := "d9b86aafd2a001a3d5544e0bfe923c1a920c3c369c90f537f5321c4c36a90fc4", func := "loop.example/g00810/laws.FnExactFillCount", spec := "fnExactFillCount", apart := false, narrowed := true }
def FnExactFillCountUptoSaid : Prop := fnExactFillCountUptoRow.holds Try.pinned (OpenSpec.upto fnExactFillCountSpec)

/-- 'laws.FnExactBestFill', WHERE WHAT IT READS IS OF BULK AT MOST 1048576: true; the input reads as it did. -/
def fnExactBestFillUptoRow : OpenClaim := { program := "ytldphoheoiochaa", sum := "d9b86aafd2a001a3d5544e0bfe923c1a920c3c369c90f537f5321c4c36a90fc4", func := "loop.example/g00810/laws.FnExactBestFill", spec := "fnExactBestFill", recurses := true, apart := false, narrowed := true }
def FnExactBestFillUptoSaid : Prop := fnExactBestFillUptoRow.holds Try.pinned (OpenSpec.upto fnExactBestFillSpec)

/-- 'laws.FnExactEliminationTree', WHERE WHAT IT READS IS OF BULK AT MOST 1048576: true; the input reads as it did. -/
def fnExactEliminationTreeUptoRow : OpenClaim := { program := "ytldphoheoiochaa", sum := "d9b86aafd2a001a3d5544e0bfe923c1a920c3c369c90f537f5321c4c36a90fc4", func := "loop.example/g00810/laws.FnExactEliminationTree", spec := "fnExactEliminationTree", apart := false, narrowed := true }
def FnExactEliminationTreeUptoSaid : Prop := fnExactEliminationTreeUptoRow.holds Try.pinned (OpenSpec.upto fnExactEliminationTreeSpec)

/-- 'laws.FnExactMergeLinks', WHERE WHAT IT READS IS OF BULK AT MOST 1048576: true; the input reads as it did. -/
def fnExactMergeLinksUptoRow : OpenClaim := { program := "ytldphoheoiochaa", sum := "d9b86aafd2a001a3d5544e0bfe923c1a920c3c369c90f537f5321c4c36a90fc4", func := "loop.example/g00810/laws.FnExactMergeLinks", spec := "fnExactMergeLinks", apart := false, narrowed := true }
def FnExactMergeLinksUptoSaid : Prop := fnExactMergeLinksUptoRow.holds Try.pinned (OpenSpec.upto fnExactMergeLinksSpec)

/-- 'laws.FnExactMinDegreeOrder', WHERE WHAT IT READS IS OF BULK AT MOST 1048576: true; the input reads as it did. -/
def fnExactMinDegreeOrderUptoRow : OpenClaim := { program := "ytldphoheoiochaa", sum := "d9b86aafd2a001a3d5544e0bfe923c1a920c3c369c90f537f5321c4c36a90fc4", func := "loop.example/g00810/laws.FnExactMinDegreeOrder", spec := "fnExactMinDegreeOrder", apart := false, narrowed := true }
def FnExactMinDegreeOrderUptoSaid : Prop := fnExactMinDegreeOrderUptoRow.holds Try.pinned (OpenSpec.upto fnExactMinDegreeOrderSpec)

end Rows
end Go.Proofs.Ytldphoheoiochaa
