/-
  No cell of these rows narrows 'for every input' (looked for: loops, veiled, ifaces, maps, wideKeys, modest, calm, conditions, laid).
  DERIVED. THE GIVEN ROWS OF THIS SEAT. 5 by the template 'for every input the law returns true; each argument reads behind the call as it read before'; 0 by the template 'total and deterministic' (their statements: YteiefahbhljlgaaTotals.lean).
  GIVEN WITH THE SEED: the statements are not yours to turn. If you find one false, say at which input.
  Laid BY PROGRAM, IN A SANDBOX (cutbox-rows.mjs): the forced cells as the released guide's own fill.sh prints them over the translation 520ee646db26da7c… (all of the seat's roots in one cut). By AI agents, Wed Nov 11 2026. No macro, syntax, notation, axiom, sorry.
-/
import Derived.Test.YteiefahbhljlgaaChecked
import GoSem.Claim
import GoSem.ClaimJoined
import GoSem.ClaimMapViews
import Derived.JoinedTies
import Derived.KernelRfl
namespace Go.Proofs.Yteiefahbhljlgaa
/- THE CELL 'sum', in the pinned program and in every row, IS THE sha256 OF THE DUMP (.gsa) THAT YteiefahbhljlgaaProg.lean LOADS. Nothing in Lean hashes anything: it is a label: what it is worth is what the hold of that sum in a sandbox is worth. -/
noncomputable def Try.pinned : Pinned := { name := "yteiefahbhljlgaa", sum := "520ee646db26da7c03b832bf74576b3f40a69371235713b59838918512600328", checked := Try.checked }
namespace Rows
def none {H : Type} : Left H := { results := [], args := [] }

/-- 'laws.FnExactTreeHeight': WHATEVER THE INPUT: true; the input reads as it did. -/
def fnExactTreeHeightSpec : ChangeSpec := { name := "fnExactTreeHeight", fn := fun _ => fun
  | [d1, d2] => { results := [.lit (.bool true)], args := [d1, d2] }
  | _ => none }
def fnExactTreeHeightRow : OpenClaim := { program := "yteiefahbhljlgaa", sum := "520ee646db26da7c03b832bf74576b3f40a69371235713b59838918512600328", func := "loop.example/g00810/laws.FnExactTreeHeight", spec := "fnExactTreeHeight", apart := false }
def FnExactTreeHeightSaid : Prop := fnExactTreeHeightRow.holds Try.pinned (OpenSpec.ofChange fnExactTreeHeightSpec)

/-- ITS FALSE NEIGHBOUR: 'it returns false'. Refute it at one input. -/
def fnExactTreeHeightWrong : ChangeSpec := { name := "fnExactTreeHeight", fn := fun _ => fun
  | [d1, d2] => { results := [.lit (.bool false)], args := [d1, d2] }
  | _ => none }
def FnExactTreeHeightWrongFalsely : Prop := fnExactTreeHeightRow.holds Try.pinned (OpenSpec.ofChange fnExactTreeHeightWrong)

/-- 'laws.FnExactSamePoints': WHATEVER THE INPUT: true; the input reads as it did. -/
def fnExactSamePointsSpec : ChangeSpec := { name := "fnExactSamePoints", fn := fun _ => fun
  | [d1, d2] => { results := [.lit (.bool true)], args := [d1, d2] }
  | _ => none }
def fnExactSamePointsRow : OpenClaim := { program := "yteiefahbhljlgaa", sum := "520ee646db26da7c03b832bf74576b3f40a69371235713b59838918512600328", func := "loop.example/g00810/laws.FnExactSamePoints", spec := "fnExactSamePoints", apart := false }
def FnExactSamePointsSaid : Prop := fnExactSamePointsRow.holds Try.pinned (OpenSpec.ofChange fnExactSamePointsSpec)

/-- ITS FALSE NEIGHBOUR: 'it returns false'. Refute it at one input. -/
def fnExactSamePointsWrong : ChangeSpec := { name := "fnExactSamePoints", fn := fun _ => fun
  | [d1, d2] => { results := [.lit (.bool false)], args := [d1, d2] }
  | _ => none }
def FnExactSamePointsWrongFalsely : Prop := fnExactSamePointsRow.holds Try.pinned (OpenSpec.ofChange fnExactSamePointsWrong)

/-- 'laws.FnExactNewLink': WHATEVER THE INPUT: true; the input reads as it did. -/
def fnExactNewLinkSpec : ChangeSpec := { name := "fnExactNewLink", fn := fun _ => fun
  | [d1, d2, d3, d4, d5] => { results := [.lit (.bool true)], args := [d1, d2, d3, d4, d5] }
  | _ => none }
def fnExactNewLinkRow : OpenClaim := { program := "yteiefahbhljlgaa", sum := "520ee646db26da7c03b832bf74576b3f40a69371235713b59838918512600328", func := "loop.example/g00810/laws.FnExactNewLink", spec := "fnExactNewLink", apart := false }
def FnExactNewLinkSaid : Prop := fnExactNewLinkRow.holds Try.pinned (OpenSpec.ofChange fnExactNewLinkSpec)

/-- ITS FALSE NEIGHBOUR: 'it returns false'. Refute it at one input. -/
def fnExactNewLinkWrong : ChangeSpec := { name := "fnExactNewLink", fn := fun _ => fun
  | [d1, d2, d3, d4, d5] => { results := [.lit (.bool false)], args := [d1, d2, d3, d4, d5] }
  | _ => none }
def FnExactNewLinkWrongFalsely : Prop := fnExactNewLinkRow.holds Try.pinned (OpenSpec.ofChange fnExactNewLinkWrong)

/-- 'laws.FnExactSameLinks': WHATEVER THE INPUT: true; the input reads as it did. -/
def fnExactSameLinksSpec : ChangeSpec := { name := "fnExactSameLinks", fn := fun _ => fun
  | [d1, d2] => { results := [.lit (.bool true)], args := [d1, d2] }
  | _ => none }
def fnExactSameLinksRow : OpenClaim := { program := "yteiefahbhljlgaa", sum := "520ee646db26da7c03b832bf74576b3f40a69371235713b59838918512600328", func := "loop.example/g00810/laws.FnExactSameLinks", spec := "fnExactSameLinks", apart := false }
def FnExactSameLinksSaid : Prop := fnExactSameLinksRow.holds Try.pinned (OpenSpec.ofChange fnExactSameLinksSpec)

/-- ITS FALSE NEIGHBOUR: 'it returns false'. Refute it at one input. -/
def fnExactSameLinksWrong : ChangeSpec := { name := "fnExactSameLinks", fn := fun _ => fun
  | [d1, d2] => { results := [.lit (.bool false)], args := [d1, d2] }
  | _ => none }
def FnExactSameLinksWrongFalsely : Prop := fnExactSameLinksRow.holds Try.pinned (OpenSpec.ofChange fnExactSameLinksWrong)

/-- 'laws.FnExactSameConditional': WHATEVER THE INPUT: true; the input reads as it did. -/
def fnExactSameConditionalSpec : ChangeSpec := { name := "fnExactSameConditional", fn := fun _ => fun
  | [d1, d2] => { results := [.lit (.bool true)], args := [d1, d2] }
  | _ => none }
def fnExactSameConditionalRow : OpenClaim := { program := "yteiefahbhljlgaa", sum := "520ee646db26da7c03b832bf74576b3f40a69371235713b59838918512600328", func := "loop.example/g00810/laws.FnExactSameConditional", spec := "fnExactSameConditional", apart := false }
def FnExactSameConditionalSaid : Prop := fnExactSameConditionalRow.holds Try.pinned (OpenSpec.ofChange fnExactSameConditionalSpec)

/-- ITS FALSE NEIGHBOUR: 'it returns false'. Refute it at one input. -/
def fnExactSameConditionalWrong : ChangeSpec := { name := "fnExactSameConditional", fn := fun _ => fun
  | [d1, d2] => { results := [.lit (.bool false)], args := [d1, d2] }
  | _ => none }
def FnExactSameConditionalWrongFalsely : Prop := fnExactSameConditionalRow.holds Try.pinned (OpenSpec.ofChange fnExactSameConditionalWrong)

/- THE SECOND FORM. 'bulk': how many values and letters a reading holds, each counted each time it is reached (what is shared counts as often as it is met; a slice's spare places count too). A statement '..UptoSaid' is the law's where the arguments, and the package variables that the reading takes, are together of bulk at most 1048576: NARROWER than '..Said'. Prove '..Said' where nothing that the law and all that it calls make is longer than what came in: it says more and counts as full. Else prove '..UptoSaid'. A law counts once. -/
mutual
def uptoBulk {H : Type} : DataW H → Nat
  | .lit (.string bytes) => bytes.length + 1
  | .lit _ => 1
  | .nil => 1
  | .ptr d => uptoBulk d + 1
  | .slice elems spare => uptoBulkAll elems + uptoBulkAll spare + 1
  | .agg parts => uptoBulkAll parts + 1
  | .iface _ d => uptoBulk d + 1
  | .map entries => uptoBulkEntries entries + 1
  | .held _ => 1
def uptoBulkAll {H : Type} : List (DataW H) → Nat
  | [] => 0
  | d :: r => uptoBulk d + uptoBulkAll r
def uptoBulkEntries {H : Type} : List (Lit × DataW H) → Nat
  | [] => 0
  | x :: r => uptoBulkEntry x + uptoBulkEntries r
def uptoBulkEntry {H : Type} : Lit × DataW H → Nat
  | (.string bytes, d) => bytes.length + uptoBulk d + 1
  | (_, d) => uptoBulk d + 1
 end
def uptoSmall : (H : Type) → List (DataW H) → Bool := fun _ ds => decide (uptoBulkAll ds ≤ 1048576)
def OpenSpec.upto (s : _root_.Go.ChangeSpec) : _root_.Go.OpenSpec := { _root_.Go.OpenSpec.ofChange s with cond := some uptoSmall }

/-- 'laws.FnExactTreeHeight', WHERE WHAT IT READS IS OF BULK AT MOST 1048576: true; the input reads as it did. -/
def fnExactTreeHeightUptoRow : OpenClaim := { program := "yteiefahbhljlgaa", sum := "520ee646db26da7c03b832bf74576b3f40a69371235713b59838918512600328", func := "loop.example/g00810/laws.FnExactTreeHeight", spec := "fnExactTreeHeight", apart := false, narrowed := true }
def FnExactTreeHeightUptoSaid : Prop := fnExactTreeHeightUptoRow.holds Try.pinned (OpenSpec.upto fnExactTreeHeightSpec)

/-- 'laws.FnExactSamePoints', WHERE WHAT IT READS IS OF BULK AT MOST 1048576: true; the input reads as it did. -/
def fnExactSamePointsUptoRow : OpenClaim := { program := "yteiefahbhljlgaa", sum := "520ee646db26da7c03b832bf74576b3f40a69371235713b59838918512600328", func := "loop.example/g00810/laws.FnExactSamePoints", spec := "fnExactSamePoints", apart := false, narrowed := true }
def FnExactSamePointsUptoSaid : Prop := fnExactSamePointsUptoRow.holds Try.pinned (OpenSpec.upto fnExactSamePointsSpec)

/-- 'laws.FnExactNewLink', WHERE WHAT IT READS IS OF BULK AT MOST 1048576: true; the input reads as it did. -/
def fnExactNewLinkUptoRow : OpenClaim := { program := "yteiefahbhljlgaa", sum := "520ee646db26da7c03b832bf74576b3f40a69371235713b59838918512600328", func := "loop.example/g00810/laws.FnExactNewLink", spec := "fnExactNewLink", apart := false, narrowed := true }
def FnExactNewLinkUptoSaid : Prop := fnExactNewLinkUptoRow.holds Try.pinned (OpenSpec.upto fnExactNewLinkSpec)

/-- 'laws.FnExactSameLinks', WHERE WHAT IT READS IS OF BULK AT MOST 1048576: true; the input reads as it did. -/
def fnExactSameLinksUptoRow : OpenClaim := { program := "yteiefahbhljlgaa", sum := "520ee646db26da7c03b832bf74576b3f40a69371235713b59838918512600328", func := "loop.example/g00810/laws.FnExactSameLinks", spec := "fnExactSameLinks", apart := false, narrowed := true }
def FnExactSameLinksUptoSaid : Prop := fnExactSameLinksUptoRow.holds Try.pinned (OpenSpec.upto fnExactSameLinksSpec)

/-- 'laws.FnExactSameConditional', WHERE WHAT IT READS IS OF BULK AT MOST 1048576: true; the input reads as it did. -/
def fnExactSameConditionalUptoRow : OpenClaim := { program := "yteiefahbhljlgaa", sum := "520ee646db26da7c03b832bf74576b3f40a69371235713b59838918512600328", func := "loop.example/g00810/laws.FnExactSameConditional", spec := "fnExactSameConditional", apart := false, narrowed := true }
def FnExactSameConditionalUptoSaid : Prop := fnExactSameConditionalUptoRow.holds Try.pinned (OpenSpec.upto fnExactSameConditionalSpec)

end Rows
end Go.Proofs.Yteiefahbhljlgaa
