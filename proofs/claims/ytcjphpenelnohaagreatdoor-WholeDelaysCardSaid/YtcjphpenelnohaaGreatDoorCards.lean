/-
  DERIVED. GIVEN WITH THE SEED: THE CARDS: each row of YtcjphpenelnohaaGreatDoorRows.lean that lists a variable, with what it lists TIED to the program's text (the seventh form; the later family's looks); each row that meets fmt, with fmt's text TOLD by the authors' own Lean function (tested against real Go, not proved from fmt's source: count such statements apart). THE CARD IS WHAT COUNTS. Prove the row's statement (the work); the ties are given (YtcjphpenelnohaaGreatDoorTie.lean); close each card by the builder's one call (the guide's Derived/Test/ToyasCard.lean, 'card_holds'). Laid BY PROGRAM, IN A SANDBOX (cutbox-door.mjs). By AI agents, Wed Nov 11 2026. No macro, syntax, notation, axiom, sorry.
-/
import Derived.Test.YtcjphpenelnohaaGreatDoorRows
import GoSem.ClaimSeven
namespace Go.Proofs.YtcjphpenelnohaaGreatDoor
namespace Rows

/-- THE TIED CARD OF 'flangetop.WholeRenewed'. -/
def wholeRenewedCard : Claim7 := { stood := { row := wholeRenewedRow, standIns := [], harness := (true, "3c43f17109cb3d08567c70e8ada6a11904f328128c58912f636baefadca35eef"), looks := true }, kinds := [], alts := [], laidByText := true, laidKinds := [.data, .data, .data, .data, .sentinel, .sentinel, .pinned], laidTests := true, laidLooks := .later }
def WholeRenewedCardSaid : Prop := Claim7.holds Tryz.pinned (.plain (OpenSpec.ofChange wholeRenewedSpec)) wholeRenewedCard

/-- THE TIED CARD OF 'flangetop.WholeNeeds'. -/
def wholeNeedsCard : Claim7 := { stood := { row := wholeNeedsRow, standIns := [], harness := (true, "3c43f17109cb3d08567c70e8ada6a11904f328128c58912f636baefadca35eef"), looks := true }, kinds := [], alts := [], laidByText := true, laidKinds := [.data, .data, .data, .data, .sentinel, .sentinel, .pinned], laidTests := true, laidLooks := .later }
def WholeNeedsCardSaid : Prop := Claim7.holds Tryz.pinned (.plain (OpenSpec.ofChange wholeNeedsSpec)) wholeNeedsCard

/-- THE TIED CARD OF 'flangetop.WholeDelays'. -/
def wholeDelaysCard : Claim7 := { stood := { row := wholeDelaysRow, standIns := [], harness := (true, "3c43f17109cb3d08567c70e8ada6a11904f328128c58912f636baefadca35eef"), looks := true }, kinds := [], alts := [], laidByText := true, laidKinds := [.data, .data, .data, .data, .sentinel, .sentinel, .pinned], laidTests := true, laidLooks := .later }
def WholeDelaysCardSaid : Prop := Claim7.holds Tryz.pinned (.plain (OpenSpec.ofChange wholeDelaysSpec)) wholeDelaysCard

/-- THE TIED CARD OF 'flangetop.WholeAddressed'. -/
def wholeAddressedCard : Claim7 := { stood := { row := wholeAddressedRow, standIns := [], harness := (true, "3c43f17109cb3d08567c70e8ada6a11904f328128c58912f636baefadca35eef"), looks := true }, kinds := [], alts := [], laidByText := true, laidKinds := [.data, .data, .data, .data, .sentinel, .sentinel, .pinned], laidTests := true, laidLooks := .later }
def WholeAddressedCardSaid : Prop := Claim7.holds Tryz.pinned (.plain (OpenSpec.ofChange wholeAddressedSpec)) wholeAddressedCard

/-- THE TIED CARD OF 'flangetop.WholeOwners'. -/
def wholeOwnersCard : Claim7 := { stood := { row := wholeOwnersRow, standIns := [], harness := (true, "3c43f17109cb3d08567c70e8ada6a11904f328128c58912f636baefadca35eef"), looks := true }, kinds := [], alts := [], laidByText := true, laidKinds := [.data, .data, .data, .data, .sentinel, .sentinel, .pinned], laidTests := true, laidLooks := .later }
def WholeOwnersCardSaid : Prop := Claim7.holds Tryz.pinned (.plain (OpenSpec.ofChange wholeOwnersSpec)) wholeOwnersCard

/-- THE TIED CARD OF 'flangetop.WholeFilled'. -/
def wholeFilledCard : Claim7 := { stood := { row := wholeFilledRow, standIns := [], harness := (true, "3c43f17109cb3d08567c70e8ada6a11904f328128c58912f636baefadca35eef"), looks := true }, kinds := [], alts := [], laidByText := true, laidKinds := [.data, .data, .data, .data, .sentinel, .sentinel, .pinned], laidTests := true, laidLooks := .later }
def WholeFilledCardSaid : Prop := Claim7.holds Tryz.pinned (.plain (OpenSpec.ofChange wholeFilledSpec)) wholeFilledCard

/-- THE TIED CARD OF 'flangetop.WholeDiffed'. -/
def wholeDiffedCard : Claim7 := { stood := { row := wholeDiffedRow, standIns := [], harness := (true, "3c43f17109cb3d08567c70e8ada6a11904f328128c58912f636baefadca35eef"), looks := true }, kinds := [], alts := [], laidByText := true, laidKinds := [.data, .data, .data, .data, .sentinel, .sentinel, .pinned], laidTests := true, laidLooks := .later }
def WholeDiffedCardSaid : Prop := Claim7.holds Tryz.pinned (.plain (OpenSpec.ofChange wholeDiffedSpec)) wholeDiffedCard

/-- THE TIED CARD OF 'flangetop.WholeFilledIn'. -/
def wholeFilledInCard : Claim7 := { stood := { row := wholeFilledInRow, standIns := [], harness := (true, "3c43f17109cb3d08567c70e8ada6a11904f328128c58912f636baefadca35eef"), looks := true }, kinds := [], alts := [], laidByText := true, laidKinds := [.data, .data, .data, .data, .sentinel, .sentinel, .pinned], laidTests := true, laidLooks := .later }
def WholeFilledInCardSaid : Prop := Claim7.holds Tryz.pinned (.plain (OpenSpec.ofChange wholeFilledInSpec)) wholeFilledInCard

/-- THE TIED CARD OF 'flangetop.WholeKept'. -/
def wholeKeptCard : Claim7 := { stood := { row := wholeKeptRow, standIns := [], harness := (true, "3c43f17109cb3d08567c70e8ada6a11904f328128c58912f636baefadca35eef"), looks := true }, kinds := [], alts := [], laidByText := true, laidKinds := [.data, .data, .data, .data, .sentinel, .sentinel, .pinned], laidTests := true, laidLooks := .later }
def WholeKeptCardSaid : Prop := Claim7.holds Tryz.pinned (.plain (OpenSpec.ofChange wholeKeptSpec)) wholeKeptCard

/-- THE TIED CARD OF 'flangetop.WholeBrought'. -/
def wholeBroughtCard : Claim7 := { stood := { row := wholeBroughtRow, standIns := [], harness := (true, "3c43f17109cb3d08567c70e8ada6a11904f328128c58912f636baefadca35eef"), looks := true }, kinds := [], alts := [], laidByText := true, laidKinds := [.data, .data, .data, .data, .sentinel, .sentinel, .pinned], laidTests := true, laidLooks := .later }
def WholeBroughtCardSaid : Prop := Claim7.holds Tryz.pinned (.plain (OpenSpec.ofChange wholeBroughtSpec)) wholeBroughtCard

/-- THE TIED CARD OF 'flangetop.WholeForms'. -/
def wholeFormsCard : Claim7 := { stood := { row := wholeFormsRow, standIns := [], harness := (true, "3c43f17109cb3d08567c70e8ada6a11904f328128c58912f636baefadca35eef"), looks := true }, kinds := [], alts := [], laidByText := true, laidKinds := [.data, .data, .data, .data, .sentinel, .sentinel, .pinned], laidTests := true, laidLooks := .later }
def WholeFormsCardSaid : Prop := Claim7.holds Tryz.pinned (.plain (OpenSpec.ofChange wholeFormsSpec)) wholeFormsCard

/-- THE SECOND FORM's CARD OF 'flangetop.WholeRenewed'. -/
def wholeRenewedUptoCard : Claim7 := { stood := { row := wholeRenewedUptoRow, standIns := [], harness := (true, "3c43f17109cb3d08567c70e8ada6a11904f328128c58912f636baefadca35eef"), looks := true }, kinds := [], alts := [], laidByText := true, laidKinds := [.data, .data, .data, .data, .sentinel, .sentinel, .pinned], laidTests := true, laidLooks := .later }
def WholeRenewedUptoCardSaid : Prop := Claim7.holds Tryz.pinned (.plain (OpenSpec.upto wholeRenewedSpec)) wholeRenewedUptoCard

/-- THE SECOND FORM's CARD OF 'flangetop.WholeNeeds'. -/
def wholeNeedsUptoCard : Claim7 := { stood := { row := wholeNeedsUptoRow, standIns := [], harness := (true, "3c43f17109cb3d08567c70e8ada6a11904f328128c58912f636baefadca35eef"), looks := true }, kinds := [], alts := [], laidByText := true, laidKinds := [.data, .data, .data, .data, .sentinel, .sentinel, .pinned], laidTests := true, laidLooks := .later }
def WholeNeedsUptoCardSaid : Prop := Claim7.holds Tryz.pinned (.plain (OpenSpec.upto wholeNeedsSpec)) wholeNeedsUptoCard

/-- THE SECOND FORM's CARD OF 'flangetop.WholeDelays'. -/
def wholeDelaysUptoCard : Claim7 := { stood := { row := wholeDelaysUptoRow, standIns := [], harness := (true, "3c43f17109cb3d08567c70e8ada6a11904f328128c58912f636baefadca35eef"), looks := true }, kinds := [], alts := [], laidByText := true, laidKinds := [.data, .data, .data, .data, .sentinel, .sentinel, .pinned], laidTests := true, laidLooks := .later }
def WholeDelaysUptoCardSaid : Prop := Claim7.holds Tryz.pinned (.plain (OpenSpec.upto wholeDelaysSpec)) wholeDelaysUptoCard

/-- THE SECOND FORM's CARD OF 'flangetop.WholeAddressed'. -/
def wholeAddressedUptoCard : Claim7 := { stood := { row := wholeAddressedUptoRow, standIns := [], harness := (true, "3c43f17109cb3d08567c70e8ada6a11904f328128c58912f636baefadca35eef"), looks := true }, kinds := [], alts := [], laidByText := true, laidKinds := [.data, .data, .data, .data, .sentinel, .sentinel, .pinned], laidTests := true, laidLooks := .later }
def WholeAddressedUptoCardSaid : Prop := Claim7.holds Tryz.pinned (.plain (OpenSpec.upto wholeAddressedSpec)) wholeAddressedUptoCard

/-- THE SECOND FORM's CARD OF 'flangetop.WholeOwners'. -/
def wholeOwnersUptoCard : Claim7 := { stood := { row := wholeOwnersUptoRow, standIns := [], harness := (true, "3c43f17109cb3d08567c70e8ada6a11904f328128c58912f636baefadca35eef"), looks := true }, kinds := [], alts := [], laidByText := true, laidKinds := [.data, .data, .data, .data, .sentinel, .sentinel, .pinned], laidTests := true, laidLooks := .later }
def WholeOwnersUptoCardSaid : Prop := Claim7.holds Tryz.pinned (.plain (OpenSpec.upto wholeOwnersSpec)) wholeOwnersUptoCard

/-- THE SECOND FORM's CARD OF 'flangetop.WholeFilled'. -/
def wholeFilledUptoCard : Claim7 := { stood := { row := wholeFilledUptoRow, standIns := [], harness := (true, "3c43f17109cb3d08567c70e8ada6a11904f328128c58912f636baefadca35eef"), looks := true }, kinds := [], alts := [], laidByText := true, laidKinds := [.data, .data, .data, .data, .sentinel, .sentinel, .pinned], laidTests := true, laidLooks := .later }
def WholeFilledUptoCardSaid : Prop := Claim7.holds Tryz.pinned (.plain (OpenSpec.upto wholeFilledSpec)) wholeFilledUptoCard

/-- THE SECOND FORM's CARD OF 'flangetop.WholeDiffed'. -/
def wholeDiffedUptoCard : Claim7 := { stood := { row := wholeDiffedUptoRow, standIns := [], harness := (true, "3c43f17109cb3d08567c70e8ada6a11904f328128c58912f636baefadca35eef"), looks := true }, kinds := [], alts := [], laidByText := true, laidKinds := [.data, .data, .data, .data, .sentinel, .sentinel, .pinned], laidTests := true, laidLooks := .later }
def WholeDiffedUptoCardSaid : Prop := Claim7.holds Tryz.pinned (.plain (OpenSpec.upto wholeDiffedSpec)) wholeDiffedUptoCard

/-- THE SECOND FORM's CARD OF 'flangetop.WholeFilledIn'. -/
def wholeFilledInUptoCard : Claim7 := { stood := { row := wholeFilledInUptoRow, standIns := [], harness := (true, "3c43f17109cb3d08567c70e8ada6a11904f328128c58912f636baefadca35eef"), looks := true }, kinds := [], alts := [], laidByText := true, laidKinds := [.data, .data, .data, .data, .sentinel, .sentinel, .pinned], laidTests := true, laidLooks := .later }
def WholeFilledInUptoCardSaid : Prop := Claim7.holds Tryz.pinned (.plain (OpenSpec.upto wholeFilledInSpec)) wholeFilledInUptoCard

/-- THE SECOND FORM's CARD OF 'flangetop.WholeKept'. -/
def wholeKeptUptoCard : Claim7 := { stood := { row := wholeKeptUptoRow, standIns := [], harness := (true, "3c43f17109cb3d08567c70e8ada6a11904f328128c58912f636baefadca35eef"), looks := true }, kinds := [], alts := [], laidByText := true, laidKinds := [.data, .data, .data, .data, .sentinel, .sentinel, .pinned], laidTests := true, laidLooks := .later }
def WholeKeptUptoCardSaid : Prop := Claim7.holds Tryz.pinned (.plain (OpenSpec.upto wholeKeptSpec)) wholeKeptUptoCard

/-- THE SECOND FORM's CARD OF 'flangetop.WholeBrought'. -/
def wholeBroughtUptoCard : Claim7 := { stood := { row := wholeBroughtUptoRow, standIns := [], harness := (true, "3c43f17109cb3d08567c70e8ada6a11904f328128c58912f636baefadca35eef"), looks := true }, kinds := [], alts := [], laidByText := true, laidKinds := [.data, .data, .data, .data, .sentinel, .sentinel, .pinned], laidTests := true, laidLooks := .later }
def WholeBroughtUptoCardSaid : Prop := Claim7.holds Tryz.pinned (.plain (OpenSpec.upto wholeBroughtSpec)) wholeBroughtUptoCard

/-- THE SECOND FORM's CARD OF 'flangetop.WholeForms'. -/
def wholeFormsUptoCard : Claim7 := { stood := { row := wholeFormsUptoRow, standIns := [], harness := (true, "3c43f17109cb3d08567c70e8ada6a11904f328128c58912f636baefadca35eef"), looks := true }, kinds := [], alts := [], laidByText := true, laidKinds := [.data, .data, .data, .data, .sentinel, .sentinel, .pinned], laidTests := true, laidLooks := .later }
def WholeFormsUptoCardSaid : Prop := Claim7.holds Tryz.pinned (.plain (OpenSpec.upto wholeFormsSpec)) wholeFormsUptoCard
end Rows
end Go.Proofs.YtcjphpenelnohaaGreatDoor
