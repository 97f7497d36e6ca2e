/-
  No cell of these rows narrows 'for every input' (looked for: loops, veiled, ifaces, maps, wideKeys, modest, calm, conditions, laid).
  DERIVED. THE GIVEN ROWS OF THIS SEAT. 4 by the template 'for every input the law returns true; each argument reads behind the call as it read before'; 0 by the template 'total and deterministic' (their statements: YtfehnjcefmdljaaTotals.lean).
  GIVEN WITH THE SEED: the statements are not yours to turn. If you find one false, say at which input.
  Laid BY PROGRAM, IN A SANDBOX (cutbox-rows.mjs): the forced cells as the released guide's own fill.sh prints them over the translation 723d2fcd6666e713… (all of the seat's roots in one cut). By AI agents, Wed Nov 11 2026. No macro, syntax, notation, axiom, sorry.
-/
import Derived.Test.YtfehnjcefmdljaaChecked
import GoSem.Claim
import GoSem.ClaimJoined
import GoSem.ClaimMapViews
import Derived.JoinedTies
import Derived.KernelRfl
namespace Go.Proofs.Ytfehnjcefmdljaa
/- THE CELL 'sum', in the pinned program and in every row, IS THE sha256 OF THE DUMP (.gsa) THAT YtfehnjcefmdljaaProg.lean LOADS. Nothing in Lean hashes anything: it is a label: what it is worth is what the hold of that sum in a sandbox is worth. -/
noncomputable def Try.pinned : Pinned := { name := "ytfehnjcefmdljaa", sum := "723d2fcd6666e7130c20474fddab028cc64159286c4b08e9c96d73f20ce5544e", checked := Try.checked }
namespace Rows
def none {H : Type} : Left H := { results := [], args := [] }

/-- 'laws.FnJoin': WHATEVER THE INPUT: true; the input reads as it did. -/
def fnJoinSpec : ChangeSpec := { name := "fnJoin", fn := fun _ => fun
  | [d] => { results := [.lit (.bool true)], args := [d] }
  | _ => none }
def fnJoinRow : OpenClaim := { program := "ytfehnjcefmdljaa", sum := "723d2fcd6666e7130c20474fddab028cc64159286c4b08e9c96d73f20ce5544e", func := "loop.example/g00810/laws.FnJoin", spec := "fnJoin", apart := false }
def FnJoinSaid : Prop := fnJoinRow.holds Try.pinned (OpenSpec.ofChange fnJoinSpec)

/-- ITS FALSE NEIGHBOUR: 'it returns false'. Refute it at one input. -/
def fnJoinWrong : ChangeSpec := { name := "fnJoin", fn := fun _ => fun
  | [d] => { results := [.lit (.bool false)], args := [d] }
  | _ => none }
def FnJoinWrongFalsely : Prop := fnJoinRow.holds Try.pinned (OpenSpec.ofChange fnJoinWrong)

/-- 'laws.FnExactInformationVectors': WHATEVER THE INPUT: true; the input reads as it did. -/
def fnExactInformationVectorsSpec : ChangeSpec := { name := "fnExactInformationVectors", fn := fun _ => fun
  | [d] => { results := [.lit (.bool true)], args := [d] }
  | _ => none }
def fnExactInformationVectorsRow : OpenClaim := { program := "ytfehnjcefmdljaa", sum := "723d2fcd6666e7130c20474fddab028cc64159286c4b08e9c96d73f20ce5544e", func := "loop.example/g00810/laws.FnExactInformationVectors", spec := "fnExactInformationVectors", apart := false }
def FnExactInformationVectorsSaid : Prop := fnExactInformationVectorsRow.holds Try.pinned (OpenSpec.ofChange fnExactInformationVectorsSpec)

/-- ITS FALSE NEIGHBOUR: 'it returns false'. Refute it at one input. -/
def fnExactInformationVectorsWrong : ChangeSpec := { name := "fnExactInformationVectors", fn := fun _ => fun
  | [d] => { results := [.lit (.bool false)], args := [d] }
  | _ => none }
def FnExactInformationVectorsWrongFalsely : Prop := fnExactInformationVectorsRow.holds Try.pinned (OpenSpec.ofChange fnExactInformationVectorsWrong)

/-- 'laws.FnExactInformationMatrix': WHATEVER THE INPUT: true; the input reads as it did. -/
def fnExactInformationMatrixSpec : ChangeSpec := { name := "fnExactInformationMatrix", fn := fun _ => fun
  | [d] => { results := [.lit (.bool true)], args := [d] }
  | _ => none }
def fnExactInformationMatrixRow : OpenClaim := { program := "ytfehnjcefmdljaa", sum := "723d2fcd6666e7130c20474fddab028cc64159286c4b08e9c96d73f20ce5544e", func := "loop.example/g00810/laws.FnExactInformationMatrix", spec := "fnExactInformationMatrix", apart := false }
def FnExactInformationMatrixSaid : Prop := fnExactInformationMatrixRow.holds Try.pinned (OpenSpec.ofChange fnExactInformationMatrixSpec)

/-- ITS FALSE NEIGHBOUR: 'it returns false'. Refute it at one input. -/
def fnExactInformationMatrixWrong : ChangeSpec := { name := "fnExactInformationMatrix", fn := fun _ => fun
  | [d] => { results := [.lit (.bool false)], args := [d] }
  | _ => none }
def FnExactInformationMatrixWrongFalsely : Prop := fnExactInformationMatrixRow.holds Try.pinned (OpenSpec.ofChange fnExactInformationMatrixWrong)

/-- 'laws.FnExactMultiplyMatrices': WHATEVER THE INPUT: true; the input reads as it did. -/
def fnExactMultiplyMatricesSpec : ChangeSpec := { name := "fnExactMultiplyMatrices", fn := fun _ => fun
  | [d1, d2] => { results := [.lit (.bool true)], args := [d1, d2] }
  | _ => none }
def fnExactMultiplyMatricesRow : OpenClaim := { program := "ytfehnjcefmdljaa", sum := "723d2fcd6666e7130c20474fddab028cc64159286c4b08e9c96d73f20ce5544e", func := "loop.example/g00810/laws.FnExactMultiplyMatrices", spec := "fnExactMultiplyMatrices", apart := false }
def FnExactMultiplyMatricesSaid : Prop := fnExactMultiplyMatricesRow.holds Try.pinned (OpenSpec.ofChange fnExactMultiplyMatricesSpec)

/-- ITS FALSE NEIGHBOUR: 'it returns false'. Refute it at one input. -/
def fnExactMultiplyMatricesWrong : ChangeSpec := { name := "fnExactMultiplyMatrices", fn := fun _ => fun
  | [d1, d2] => { results := [.lit (.bool false)], args := [d1, d2] }
  | _ => none }
def FnExactMultiplyMatricesWrongFalsely : Prop := fnExactMultiplyMatricesRow.holds Try.pinned (OpenSpec.ofChange fnExactMultiplyMatricesWrong)

/- THE SECOND FORM. 'bulk': how many values and letters a reading holds, each counted each time it is reached (what is shared counts as often as it is met; a slice's spare places count too). A statement '..UptoSaid' is the law's where the arguments, and the package variables that the reading takes, are together of bulk at most 1048576: NARROWER than '..Said'. Prove '..Said' where nothing that the law and all that it calls make is longer than what came in: it says more and counts as full. Else prove '..UptoSaid'. A law counts once. -/
mutual
def uptoBulk {H : Type} : DataW H → Nat
  | .lit (.string bytes) => bytes.length + 1
  | .lit _ => 1
  | .nil => 1
  | .ptr d => uptoBulk d + 1
  | .slice elems spare => uptoBulkAll elems + uptoBulkAll spare + 1
  | .agg parts => uptoBulkAll parts + 1
  | .iface _ d => uptoBulk d + 1
  | .map entries => uptoBulkEntries entries + 1
  | .held _ => 1
def uptoBulkAll {H : Type} : List (DataW H) → Nat
  | [] => 0
  | d :: r => uptoBulk d + uptoBulkAll r
def uptoBulkEntries {H : Type} : List (Lit × DataW H) → Nat
  | [] => 0
  | x :: r => uptoBulkEntry x + uptoBulkEntries r
def uptoBulkEntry {H : Type} : Lit × DataW H → Nat
  | (.string bytes, d) => bytes.length + uptoBulk d + 1
  | (_, d) => uptoBulk d + 1
 end
def uptoSmall : (H : Type) → List (DataW H) → Bool := fun _ ds => decide (uptoBulkAll ds ≤ 1048576)
def OpenSpec.upto (s : _root_.Go.ChangeSpec) : _root_.Go.OpenSpec := { _root_.Go.OpenSpec.ofChange s with cond := some uptoSmall }

/-- 'laws.FnJoin', WHERE WHAT IT READS IS OF BULK AT MOST 1048576: true; the input reads as it did. -/
def fnJoinUptoRow : OpenClaim := { program := "ytfehnjcefmdljaa", sum := "723d2fcd6666e7130c20474fddab028cc64159286c4b08e9c96d73f20ce5544e", func := "loop.example/g00810/laws.FnJoin", spec := "fnJoin", apart := false, narrowed := true }
def FnJoinUptoSaid : Prop := fnJoinUptoRow.holds Try.pinned (OpenSpec.upto fnJoinSpec)

/-- 'laws.FnExactInformationVectors', WHERE WHAT IT READS IS OF BULK AT MOST 1048576: true; the input reads as it did. -/
def fnExactInformationVectorsUptoRow : OpenClaim := { program := "ytfehnjcefmdljaa", sum := "723d2fcd6666e7130c20474fddab028cc64159286c4b08e9c96d73f20ce5544e", func := "loop.example/g00810/laws.FnExactInformationVectors", spec := "fnExactInformationVectors", apart := false, narrowed := true }
def FnExactInformationVectorsUptoSaid : Prop := fnExactInformationVectorsUptoRow.holds Try.pinned (OpenSpec.upto fnExactInformationVectorsSpec)

/-- 'laws.FnExactInformationMatrix', WHERE WHAT IT READS IS OF BULK AT MOST 1048576: true; the input reads as it did. -/
def fnExactInformationMatrixUptoRow : OpenClaim := { program := "ytfehnjcefmdljaa", sum := "723d2fcd6666e7130c20474fddab028cc64159286c4b08e9c96d73f20ce5544e", func := "loop.example/g00810/laws.FnExactInformationMatrix", spec := "fnExactInformationMatrix", apart := false, narrowed := true }
def FnExactInformationMatrixUptoSaid : Prop := fnExactInformationMatrixUptoRow.holds Try.pinned (OpenSpec.upto fnExactInformationMatrixSpec)

/-- 'laws.FnExactMultiplyMatrices', WHERE WHAT IT READS IS OF BULK AT MOST 1048576: true; the input reads as it did. -/
def fnExactMultiplyMatricesUptoRow : OpenClaim := { program := "ytfehnjcefmdljaa", sum := "723d2fcd6666e7130c20474fddab028cc64159286c4b08e9c96d73f20ce5544e", func := "loop.example/g00810/laws.FnExactMultiplyMatrices", spec := "fnExactMultiplyMatrices", apart := false, narrowed := true }
def FnExactMultiplyMatricesUptoSaid : Prop := fnExactMultiplyMatricesUptoRow.holds Try.pinned (OpenSpec.upto fnExactMultiplyMatricesSpec)

end Rows
end Go.Proofs.Ytfehnjcefmdljaa
