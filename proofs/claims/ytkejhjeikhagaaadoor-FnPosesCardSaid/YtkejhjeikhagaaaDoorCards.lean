/-
  DERIVED. GIVEN WITH THE SEED: THE CARDS: each row of YtkejhjeikhagaaaDoorRows.lean that lists a variable, with what it lists TIED to the program's text (the seventh form; the later family's looks); each row that meets fmt, with fmt's text TOLD by the authors' own Lean function (tested against real Go, not proved from fmt's source: count such statements apart). THE CARD IS WHAT COUNTS. Prove the row's statement (the work); the ties are given (YtkejhjeikhagaaaDoorTie.lean); close each card by the builder's one call (the guide's Derived/Test/ToyasCard.lean, 'card_holds'). Laid BY PROGRAM, IN A SANDBOX (cutbox-door.mjs). By AI agents, Wed Nov 11 2026. No macro, syntax, notation, axiom, sorry.
-/
import Derived.Test.YtkejhjeikhagaaaDoorRows
import GoSem.ClaimSeven
namespace Go.Proofs.YtkejhjeikhagaaaDoor
namespace Rows

/-- THE TIED CARD OF 'laws.FnExactFormatPose'. -/
def fnExactFormatPoseCard : Claim7 := { stood := { row := fnExactFormatPoseRow, standIns := [], harness := (true, "111dc15c293f3b2c1fee2668a8693f9f128d5d8ad884e790262abcd1364ff708"), looks := true }, kinds := [], alts := [], laidByText := true, laidKinds := [.data, .data, .data], laidTests := true, laidLooks := .later }
def FnExactFormatPoseCardSaid : Prop := Claim7.holds Tryd.pinned (.plain (OpenSpec.ofChange fnExactFormatPoseSpec)) fnExactFormatPoseCard

/-- THE TIED CARD OF 'laws.FnPoses'. -/
def fnPosesCard : Claim7 := { stood := { row := fnPosesRow, standIns := [], harness := (true, "111dc15c293f3b2c1fee2668a8693f9f128d5d8ad884e790262abcd1364ff708"), looks := true }, kinds := [], alts := [], laidByText := true, laidKinds := [.data, .data, .data, .sentinel, .sentinel], laidTests := true, laidLooks := .later }
def FnPosesCardSaid : Prop := Claim7.holds Tryd.pinned (.plain (OpenSpec.ofChange fnPosesSpec)) fnPosesCard

/-- THE TIED CARD OF 'laws.FnExactParsePose'. -/
def fnExactParsePoseCard : Claim7 := { stood := { row := fnExactParsePoseRow, standIns := [], harness := (true, "111dc15c293f3b2c1fee2668a8693f9f128d5d8ad884e790262abcd1364ff708"), looks := true }, kinds := [], alts := [], laidByText := true, laidKinds := [.data, .data, .data, .sentinel, .sentinel], laidTests := true, laidLooks := .later }
def FnExactParsePoseCardSaid : Prop := Claim7.holds Tryd.pinned (.plain (OpenSpec.ofChange fnExactParsePoseSpec)) fnExactParsePoseCard

/-- THE TIED CARD OF 'laws.FnExactFormatPoints'. -/
def fnExactFormatPointsCard : Claim7 := { stood := { row := fnExactFormatPointsRow, standIns := [], harness := (true, "111dc15c293f3b2c1fee2668a8693f9f128d5d8ad884e790262abcd1364ff708"), looks := true }, kinds := [], alts := [], laidByText := true, laidKinds := [.data, .data, .data], laidTests := true, laidLooks := .later }
def FnExactFormatPointsCardSaid : Prop := Claim7.holds Tryd.pinned (.plain (OpenSpec.ofChange fnExactFormatPointsSpec)) fnExactFormatPointsCard

/-- THE TIED CARD OF 'laws.FnExactFormatLink'. -/
def fnExactFormatLinkCard : Claim7 := { stood := { row := fnExactFormatLinkRow, standIns := [], harness := (true, "111dc15c293f3b2c1fee2668a8693f9f128d5d8ad884e790262abcd1364ff708"), looks := true }, kinds := [], alts := [], laidByText := true, laidKinds := [.data, .data, .data], laidTests := true, laidLooks := .later }
def FnExactFormatLinkCardSaid : Prop := Claim7.holds Tryd.pinned (.plain (OpenSpec.ofChange fnExactFormatLinkSpec)) fnExactFormatLinkCard

/-- THE SECOND FORM's CARD OF 'laws.FnExactFormatPose'. -/
def fnExactFormatPoseUptoCard : Claim7 := { stood := { row := fnExactFormatPoseUptoRow, standIns := [], harness := (true, "111dc15c293f3b2c1fee2668a8693f9f128d5d8ad884e790262abcd1364ff708"), looks := true }, kinds := [], alts := [], laidByText := true, laidKinds := [.data, .data, .data], laidTests := true, laidLooks := .later }
def FnExactFormatPoseUptoCardSaid : Prop := Claim7.holds Tryd.pinned (.plain (OpenSpec.upto fnExactFormatPoseSpec)) fnExactFormatPoseUptoCard

/-- THE SECOND FORM's CARD OF 'laws.FnPoses'. -/
def fnPosesUptoCard : Claim7 := { stood := { row := fnPosesUptoRow, standIns := [], harness := (true, "111dc15c293f3b2c1fee2668a8693f9f128d5d8ad884e790262abcd1364ff708"), looks := true }, kinds := [], alts := [], laidByText := true, laidKinds := [.data, .data, .data, .sentinel, .sentinel], laidTests := true, laidLooks := .later }
def FnPosesUptoCardSaid : Prop := Claim7.holds Tryd.pinned (.plain (OpenSpec.upto fnPosesSpec)) fnPosesUptoCard

/-- THE SECOND FORM's CARD OF 'laws.FnExactParsePose'. -/
def fnExactParsePoseUptoCard : Claim7 := { stood := { row := fnExactParsePoseUptoRow, standIns := [], harness := (true, "111dc15c293f3b2c1fee2668a8693f9f128d5d8ad884e790262abcd1364ff708"), looks := true }, kinds := [], alts := [], laidByText := true, laidKinds := [.data, .data, .data, .sentinel, .sentinel], laidTests := true, laidLooks := .later }
def FnExactParsePoseUptoCardSaid : Prop := Claim7.holds Tryd.pinned (.plain (OpenSpec.upto fnExactParsePoseSpec)) fnExactParsePoseUptoCard

/-- THE SECOND FORM's CARD OF 'laws.FnExactFormatPoints'. -/
def fnExactFormatPointsUptoCard : Claim7 := { stood := { row := fnExactFormatPointsUptoRow, standIns := [], harness := (true, "111dc15c293f3b2c1fee2668a8693f9f128d5d8ad884e790262abcd1364ff708"), looks := true }, kinds := [], alts := [], laidByText := true, laidKinds := [.data, .data, .data], laidTests := true, laidLooks := .later }
def FnExactFormatPointsUptoCardSaid : Prop := Claim7.holds Tryd.pinned (.plain (OpenSpec.upto fnExactFormatPointsSpec)) fnExactFormatPointsUptoCard

/-- THE SECOND FORM's CARD OF 'laws.FnExactFormatLink'. -/
def fnExactFormatLinkUptoCard : Claim7 := { stood := { row := fnExactFormatLinkUptoRow, standIns := [], harness := (true, "111dc15c293f3b2c1fee2668a8693f9f128d5d8ad884e790262abcd1364ff708"), looks := true }, kinds := [], alts := [], laidByText := true, laidKinds := [.data, .data, .data], laidTests := true, laidLooks := .later }
def FnExactFormatLinkUptoCardSaid : Prop := Claim7.holds Tryd.pinned (.plain (OpenSpec.upto fnExactFormatLinkSpec)) fnExactFormatLinkUptoCard
end Rows
end Go.Proofs.YtkejhjeikhagaaaDoor
