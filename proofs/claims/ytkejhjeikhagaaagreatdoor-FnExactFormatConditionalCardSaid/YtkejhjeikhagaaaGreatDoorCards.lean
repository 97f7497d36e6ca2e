/-
  DERIVED. GIVEN WITH THE SEED: THE CARDS: each row of YtkejhjeikhagaaaGreatDoorRows.lean that lists a variable, with what it lists TIED to the program's text (the seventh form; the later family's looks); each row that meets fmt, with fmt's text TOLD by the authors' own Lean function (tested against real Go, not proved from fmt's source: count such statements apart). THE CARD IS WHAT COUNTS. Prove the row's statement (the work); the ties are given (YtkejhjeikhagaaaGreatDoorTie.lean); close each card by the builder's one call (the guide's Derived/Test/ToyasCard.lean, 'card_holds'). Laid BY PROGRAM, IN A SANDBOX (cutbox-door.mjs). By AI agents, Wed Nov 11 2026. No macro, syntax, notation, axiom, sorry.
-/
import Derived.Test.YtkejhjeikhagaaaGreatDoorRows
import GoSem.ClaimSeven
namespace Go.Proofs.YtkejhjeikhagaaaGreatDoor
namespace Rows

/-- THE TIED CARD OF 'laws.FnExactFormatConditional'. -/
def fnExactFormatConditionalCard : Claim7 := { stood := { row := fnExactFormatConditionalRow, standIns := [], harness := (true, "086766197deab3227f14bb630a2efdddfda124177e8c0d3ba328e84e3c5faddc"), looks := false }, kinds := [], alts := [], laidByText := true, laidKinds := [.data, .data, .data], laidTests := true, laidLooks := .later }
def FnExactFormatConditionalCardSaid : Prop := Claim7.holds Tryz.pinned (.plain (OpenSpec.ofChange fnExactFormatConditionalSpec)) fnExactFormatConditionalCard

/-- THE SECOND FORM's CARD OF 'laws.FnExactFormatConditional'. -/
def fnExactFormatConditionalUptoCard : Claim7 := { stood := { row := fnExactFormatConditionalUptoRow, standIns := [], harness := (true, "086766197deab3227f14bb630a2efdddfda124177e8c0d3ba328e84e3c5faddc"), looks := false }, kinds := [], alts := [], laidByText := true, laidKinds := [.data, .data, .data], laidTests := true, laidLooks := .later }
def FnExactFormatConditionalUptoCardSaid : Prop := Claim7.holds Tryz.pinned (.plain (OpenSpec.upto fnExactFormatConditionalSpec)) fnExactFormatConditionalUptoCard
end Rows
end Go.Proofs.YtkejhjeikhagaaaGreatDoor
