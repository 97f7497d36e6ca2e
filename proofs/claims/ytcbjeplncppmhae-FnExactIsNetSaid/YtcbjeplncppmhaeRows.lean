/-
  No cell of these rows narrows 'for every input' (looked for: loops, veiled, ifaces, maps, wideKeys, modest, calm, conditions, laid).
  DERIVED. THE GIVEN ROWS OF THIS SEAT. 6 by the template 'for every input the law returns true; each argument reads behind the call as it read before'; 0 by the template 'total and deterministic' (their statements: YtcbjeplncppmhaeTotals.lean).
  GIVEN WITH THE SEED: the statements are not yours to turn. If you find one false, say at which input.
  Laid BY PROGRAM, IN A SANDBOX (cutbox-rows.mjs): the forced cells as the released guide's own fill.sh prints them over the translation 5304f3c9ddde4196… (all of the seat's roots in one cut). By AI agents, Wed Nov 11 2026. No macro, syntax, notation, axiom, sorry.
-/
import Derived.Test.YtcbjeplncppmhaeChecked
import GoSem.Claim
import GoSem.ClaimJoined
import GoSem.ClaimMapViews
import Derived.JoinedTies
import Derived.KernelRfl
namespace Go.Proofs.Ytcbjeplncppmhae
/- THE CELL 'sum', in the pinned program and in every row, IS THE sha256 OF THE DUMP (.gsa) THAT YtcbjeplncppmhaeProg.lean LOADS. Nothing in Lean hashes anything: it is a label: what it is worth is what the hold of that sum in a sandbox is worth. -/
noncomputable def Try.pinned : Pinned := { name := "ytcbjeplncppmhae", sum := "5304f3c9ddde4196b26fb0995dad724870d9c069f516a2cd850321922be35fde", checked := Try.checked }
namespace Rows
def none {H : Type} : Left H := { results := [], args := [] }

/-- 'laws.FnExactMinDegreeOrder': WHATEVER THE INPUT: true; the input reads as it did. -/
def fnExactMinDegreeOrderSpec : ChangeSpec := { name := "fnExactMinDegreeOrder", fn := fun _ => fun
  | [d1, d2] => { results := [.lit (.bool true)], args := [d1, d2] }
  | _ => none }
def fnExactMinDegreeOrderRow : OpenClaim := { program := "ytcbjeplncppmhae", sum := "5304f3c9ddde4196b26fb0995dad724870d9c069f516a2cd850321922be35fde", func := "loop.example/g00810/laws.FnExactMinDegreeOrder", spec := "fnExactMinDegreeOrder", apart := false }
def FnExactMinDegreeOrderSaid : Prop := fnExactMinDegreeOrderRow.holds Try.pinned (OpenSpec.ofChange fnExactMinDegreeOrderSpec)

/-- ITS FALSE NEIGHBOUR: 'it returns false'. Refute it at one input. -/
def fnExactMinDegreeOrderWrong : ChangeSpec := { name := "fnExactMinDegreeOrder", fn := fun _ => fun
  | [d1, d2] => { results := [.lit (.bool false)], args := [d1, d2] }
  | _ => none }
def FnExactMinDegreeOrderWrongFalsely : Prop := fnExactMinDegreeOrderRow.holds Try.pinned (OpenSpec.ofChange fnExactMinDegreeOrderWrong)

/-- 'laws.FnExactMultiplyMatrices': WHATEVER THE INPUT: true; the input reads as it did. -/
def fnExactMultiplyMatricesSpec : ChangeSpec := { name := "fnExactMultiplyMatrices", fn := fun _ => fun
  | [d1, d2] => { results := [.lit (.bool true)], args := [d1, d2] }
  | _ => none }
def fnExactMultiplyMatricesRow : OpenClaim := { program := "ytcbjeplncppmhae", sum := "5304f3c9ddde4196b26fb0995dad724870d9c069f516a2cd850321922be35fde", func := "loop.example/g00810/laws.FnExactMultiplyMatrices", spec := "fnExactMultiplyMatrices", apart := false }
def FnExactMultiplyMatricesSaid : Prop := fnExactMultiplyMatricesRow.holds Try.pinned (OpenSpec.ofChange fnExactMultiplyMatricesSpec)

/-- ITS FALSE NEIGHBOUR: 'it returns false'. Refute it at one input. -/
def fnExactMultiplyMatricesWrong : ChangeSpec := { name := "fnExactMultiplyMatrices", fn := fun _ => fun
  | [d1, d2] => { results := [.lit (.bool false)], args := [d1, d2] }
  | _ => none }
def FnExactMultiplyMatricesWrongFalsely : Prop := fnExactMultiplyMatricesRow.holds Try.pinned (OpenSpec.ofChange fnExactMultiplyMatricesWrong)

/-- 'laws.FnExactIsNet': WHATEVER THE INPUT: true; the input reads as it did. -/
def fnExactIsNetSpec : ChangeSpec := { name := "fnExactIsNet", fn := fun _ => fun
  | [d] => { results := [.lit (.bool true)], args := [d] }
  | _ => none }
def fnExactIsNetRow : OpenClaim := { program := "ytcbjeplncppmhae", sum := "5304f3c9ddde4196b26fb0995dad724870d9c069f516a2cd850321922be35fde", func := "loop.example/g00810/laws.FnExactIsNet", spec := "fnExactIsNet", apart := false }
def FnExactIsNetSaid : Prop := fnExactIsNetRow.holds Try.pinned (OpenSpec.ofChange fnExactIsNetSpec)

/-- ITS FALSE NEIGHBOUR: 'it returns false'. Refute it at one input. -/
def fnExactIsNetWrong : ChangeSpec := { name := "fnExactIsNet", fn := fun _ => fun
  | [d] => { results := [.lit (.bool false)], args := [d] }
  | _ => none }
def FnExactIsNetWrongFalsely : Prop := fnExactIsNetRow.holds Try.pinned (OpenSpec.ofChange fnExactIsNetWrong)

/-- 'laws.FnOrders': WHATEVER THE INPUT: true; the input reads as it did. -/
def fnOrdersSpec : ChangeSpec := { name := "fnOrders", fn := fun _ => fun
  | [d] => { results := [.lit (.bool true)], args := [d] }
  | _ => none }
def fnOrdersRow : OpenClaim := { program := "ytcbjeplncppmhae", sum := "5304f3c9ddde4196b26fb0995dad724870d9c069f516a2cd850321922be35fde", func := "loop.example/g00810/laws.FnOrders", spec := "fnOrders", recurses := true, apart := false }
def FnOrdersSaid : Prop := fnOrdersRow.holds Try.pinned (OpenSpec.ofChange fnOrdersSpec)

/-- ITS FALSE NEIGHBOUR: 'it returns false'. Refute it at one input. -/
def fnOrdersWrong : ChangeSpec := { name := "fnOrders", fn := fun _ => fun
  | [d] => { results := [.lit (.bool false)], args := [d] }
  | _ => none }
def FnOrdersWrongFalsely : Prop := fnOrdersRow.holds Try.pinned (OpenSpec.ofChange fnOrdersWrong)

/-- 'laws.FnExactReduceRows': WHATEVER THE INPUT: true; the input reads as it did. -/
def fnExactReduceRowsSpec : ChangeSpec := { name := "fnExactReduceRows", fn := fun _ => fun
  | [d1, d2] => { results := [.lit (.bool true)], args := [d1, d2] }
  | _ => none }
def fnExactReduceRowsRow : OpenClaim := { program := "ytcbjeplncppmhae", sum := "5304f3c9ddde4196b26fb0995dad724870d9c069f516a2cd850321922be35fde", func := "loop.example/g00810/laws.FnExactReduceRows", spec := "fnExactReduceRows", apart := false }
def FnExactReduceRowsSaid : Prop := fnExactReduceRowsRow.holds Try.pinned (OpenSpec.ofChange fnExactReduceRowsSpec)

/-- ITS FALSE NEIGHBOUR: 'it returns false'. Refute it at one input. -/
def fnExactReduceRowsWrong : ChangeSpec := { name := "fnExactReduceRows", fn := fun _ => fun
  | [d1, d2] => { results := [.lit (.bool false)], args := [d1, d2] }
  | _ => none }
def FnExactReduceRowsWrongFalsely : Prop := fnExactReduceRowsRow.holds Try.pinned (OpenSpec.ofChange fnExactReduceRowsWrong)

/-- 'laws.FnExactSolveSystem': WHATEVER THE INPUT: true; the input reads as it did. -/
def fnExactSolveSystemSpec : ChangeSpec := { name := "fnExactSolveSystem", fn := fun _ => fun
  | [d1, d2] => { results := [.lit (.bool true)], args := [d1, d2] }
  | _ => none }
def fnExactSolveSystemRow : OpenClaim := { program := "ytcbjeplncppmhae", sum := "5304f3c9ddde4196b26fb0995dad724870d9c069f516a2cd850321922be35fde", func := "loop.example/g00810/laws.FnExactSolveSystem", spec := "fnExactSolveSystem", apart := false }
def FnExactSolveSystemSaid : Prop := fnExactSolveSystemRow.holds Try.pinned (OpenSpec.ofChange fnExactSolveSystemSpec)

/-- ITS FALSE NEIGHBOUR: 'it returns false'. Refute it at one input. -/
def fnExactSolveSystemWrong : ChangeSpec := { name := "fnExactSolveSystem", fn := fun _ => fun
  | [d1, d2] => { results := [.lit (.bool false)], args := [d1, d2] }
  | _ => none }
def FnExactSolveSystemWrongFalsely : Prop := fnExactSolveSystemRow.holds Try.pinned (OpenSpec.ofChange fnExactSolveSystemWrong)

/- THE SECOND FORM. 'bulk': how many values and letters a reading holds, each counted each time it is reached (what is shared counts as often as it is met; a slice's spare places count too). A statement '..UptoSaid' is the law's where the arguments, and the package variables that the reading takes, are together of bulk at most 1048576: NARROWER than '..Said'. Prove '..Said' where nothing that the law and all that it calls make is longer than what came in: it says more and counts as full. Else prove '..UptoSaid'. A law counts once. -/
mutual
def uptoBulk {H : Type} : DataW H → Nat
  | .lit (.string bytes) => bytes.length + 1
  | .lit _ => 1
  | .nil => 1
  | .ptr d => uptoBulk d + 1
  | .slice elems spare => uptoBulkAll elems + uptoBulkAll spare + 1
  | .agg parts => uptoBulkAll parts + 1
  | .iface _ d => uptoBulk d + 1
  | .map entries => uptoBulkEntries entries + 1
  | .held _ => 1
def uptoBulkAll {H : Type} : List (DataW H) → Nat
  | [] => 0
  | d :: r => uptoBulk d + uptoBulkAll r
def uptoBulkEntries {H : Type} : List (Lit × DataW H) → Nat
  | [] => 0
  | x :: r => uptoBulkEntry x + uptoBulkEntries r
def uptoBulkEntry {H : Type} : Lit × DataW H → Nat
  | (.string bytes, d) => bytes.length + uptoBulk d + 1
  | (_, d) => uptoBulk d + 1
 end
def uptoSmall : (H : Type) → List (DataW H) → Bool := fun _ ds => decide (uptoBulkAll ds ≤ 1048576)
def OpenSpec.upto (s : _root_.Go.ChangeSpec) : _root_.Go.OpenSpec := { _root_.Go.OpenSpec.ofChange s with cond := some uptoSmall }

/-- 'laws.FnExactMinDegreeOrder', WHERE WHAT IT READS IS OF BULK AT MOST 1048576: true; the input reads as it did. -/
def fnExactMinDegreeOrderUptoRow : OpenClaim := { program := "ytcbjeplncppmhae", sum := "5304f3c9ddde4196b26fb0995dad724870d9c069f516a2cd850321922be35fde", func := "loop.example/g00810/laws.FnExactMinDegreeOrder", spec := "fnExactMinDegreeOrder", apart := false, narrowed := true }
def FnExactMinDegreeOrderUptoSaid : Prop := fnExactMinDegreeOrderUptoRow.holds Try.pinned (OpenSpec.upto fnExactMinDegreeOrderSpec)

/-- 'laws.FnExactMultiplyMatrices', WHERE WHAT IT READS IS OF BULK AT MOST 1048576: true; the input reads as it did. -/
def fnExactMultiplyMatricesUptoRow : OpenClaim := { program := "ytcbjeplncppmhae", sum := "5304f3c9ddde4196b26fb0995dad724870d9c069f516a2cd850321922be35fde", func := "loop.example/g00810/laws.FnExactMultiplyMatrices", spec := "fnExactMultiplyMatrices", apart := false, narrowed := true }
def FnExactMultiplyMatricesUptoSaid : Prop := fnExactMultiplyMatricesUptoRow.holds Try.pinned (OpenSpec.upto fnExactMultiplyMatricesSpec)

/-- 'laws.FnExactIsNet', WHERE WHAT IT READS IS OF BULK AT MOST 1048576: true; the input reads as it did. -/
def fnExactIsNetUptoRow : OpenClaim := { program := "ytcbjeplncppmhae", sum := "5304f3c9ddde4196b26fb0995dad724870d9c069f516a2cd850321922be35fde", func := "loop.example/g00810/laws.FnExactIsNet", spec := "fnExactIsNet", apart := false, narrowed := true }
def FnExactIsNetUptoSaid : Prop := fnExactIsNetUptoRow.holds Try.pinned (OpenSpec.upto fnExactIsNetSpec)

/-- 'laws.FnOrders', WHERE WHAT IT READS IS OF BULK AT MOST 1048576: true; the input reads as it did. -/
def fnOrdersUptoRow : OpenClaim := { program := "ytcbjeplncppmhae", sum := "5304f3c9ddde4196b26fb0995dad724870d9c069f516a2cd850321922be35fde", func := "loop.example/g00810/laws.FnOrders", spec := "fnOrders", recurses := true, apart := false, narrowed := true }
def FnOrdersUptoSaid : Prop := fnOrdersUptoRow.holds Try.pinned (OpenSpec.upto fnOrdersSpec)

/-- 'laws.FnExactReduceRows', WHERE WHAT IT READS IS OF BULK AT MOST 1048576: true; the input reads as it did. -/
def fnExactReduceRowsUptoRow : OpenClaim := { program := "ytcbjeplncppmhae", sum := "5304f3c9ddde4196b26fb0995dad724870d9c069f516a2cd850321922be35fde", func := "loop.example/g00810/laws.FnExactReduceRows", spec := "fnExactReduceRows", apart := false, narrowed := true }
def FnExactReduceRowsUptoSaid : Prop := fnExactReduceRowsUptoRow.holds Try.pinned (OpenSpec.upto fnExactReduceRowsSpec)

/-- 'laws.FnExactSolveSystem', WHERE WHAT IT READS IS OF BULK AT MOST 1048576: true; the input reads as it did. -/
def fnExactSolveSystemUptoRow : OpenClaim := { program := "ytcbjeplncppmhae", sum := "5304f3c9ddde4196b26fb0995dad724870d9c069f516a2cd850321922be35fde", func := "loop.example/g00810/laws.FnExactSolveSystem", spec := "fnExactSolveSystem", apart := false, narrowed := true }
def FnExactSolveSystemUptoSaid : Prop := fnExactSolveSystemUptoRow.holds Try.pinned (OpenSpec.upto fnExactSolveSystemSpec)

end Rows
end Go.Proofs.Ytcbjeplncppmhae
