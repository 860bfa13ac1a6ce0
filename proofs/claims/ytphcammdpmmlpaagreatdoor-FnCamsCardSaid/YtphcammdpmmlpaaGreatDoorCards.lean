/-
  DERIVED. GIVEN WITH THE SEED: THE CARDS: each row of YtphcammdpmmlpaaGreatDoorRows.lean that lists a variable, with what it lists TIED to the program's text (the seventh form; the later family's looks); each row that meets fmt, with fmt's text TOLD by the authors' own Lean function (tested against real Go, not proved from fmt's source: count such statements apart). THE CARD IS WHAT COUNTS. Prove the row's statement (the work); the ties are given (YtphcammdpmmlpaaGreatDoorTie.lean); close each card by the builder's one call (the guide's Derived/Test/ToyasCard.lean, 'card_holds'). Laid BY PROGRAM, IN A SANDBOX (cutbox-door.mjs). By AI agents, Wed Nov 11 2026. No macro, syntax, notation, axiom, sorry.
-/
import Derived.Test.YtphcammdpmmlpaaGreatDoorRows
import GoSem.ClaimSeven
namespace Go.Proofs.YtphcammdpmmlpaaGreatDoor
namespace Rows

/-- THE TIED CARD OF 'laws.FnShafts'. -/
def fnShaftsCard : Claim7 := { stood := { row := fnShaftsRow, standIns := [], harness := (true, "122635cb9cb849fef46d358d897b8220cc5ef4a556db29d99ffeb9eb7aa34faf"), looks := true }, kinds := [], alts := [], laidByText := true, laidKinds := [.data, .data, .data, .data, .sentinel, .sentinel, .pinned], laidTests := true, laidLooks := .later }
def FnShaftsCardSaid : Prop := Claim7.holds Tryz.pinned (.plain (OpenSpec.ofChange fnShaftsSpec)) fnShaftsCard

/-- THE TIED CARD OF 'laws.FnCams'. -/
def fnCamsCard : Claim7 := { stood := { row := fnCamsRow, standIns := [], harness := (true, "122635cb9cb849fef46d358d897b8220cc5ef4a556db29d99ffeb9eb7aa34faf"), looks := true }, kinds := [], alts := [], laidByText := true, laidKinds := [.data, .data, .data, .data, .sentinel, .sentinel, .pinned], laidTests := true, laidLooks := .later }
def FnCamsCardSaid : Prop := Claim7.holds Tryz.pinned (.plain (OpenSpec.ofChange fnCamsSpec)) fnCamsCard

/-- THE TIED CARD OF 'laws.FnMachines'. -/
def fnMachinesCard : Claim7 := { stood := { row := fnMachinesRow, standIns := [], harness := (true, "122635cb9cb849fef46d358d897b8220cc5ef4a556db29d99ffeb9eb7aa34faf"), looks := true }, kinds := [], alts := [], laidByText := true, laidKinds := [.data, .data, .data, .data, .sentinel, .sentinel, .pinned], laidTests := true, laidLooks := .later }
def FnMachinesCardSaid : Prop := Claim7.holds Tryz.pinned (.plain (OpenSpec.ofChange fnMachinesSpec)) fnMachinesCard

/-- THE TIED CARD OF 'laws.FnPrograms'. -/
def fnProgramsCard : Claim7 := { stood := { row := fnProgramsRow, standIns := [], harness := (true, "122635cb9cb849fef46d358d897b8220cc5ef4a556db29d99ffeb9eb7aa34faf"), looks := true }, kinds := [], alts := [], laidByText := true, laidKinds := [.data, .data, .data, .data, .sentinel, .sentinel, .pinned], laidTests := true, laidLooks := .later }
def FnProgramsCardSaid : Prop := Claim7.holds Tryz.pinned (.plain (OpenSpec.ofChange fnProgramsSpec)) fnProgramsCard

/-- THE TIED CARD OF 'laws.FnRepaired'. -/
def fnRepairedCard : Claim7 := { stood := { row := fnRepairedRow, standIns := [], harness := (true, "122635cb9cb849fef46d358d897b8220cc5ef4a556db29d99ffeb9eb7aa34faf"), looks := true }, kinds := [], alts := [], laidByText := true, laidKinds := [.data, .data, .data, .data, .sentinel, .sentinel, .pinned], laidTests := true, laidLooks := .later }
def FnRepairedCardSaid : Prop := Claim7.holds Tryz.pinned (.plain (OpenSpec.ofChange fnRepairedSpec)) fnRepairedCard

/-- THE SECOND FORM's CARD OF 'laws.FnShafts'. -/
def fnShaftsUptoCard : Claim7 := { stood := { row := fnShaftsUptoRow, standIns := [], harness := (true, "122635cb9cb849fef46d358d897b8220cc5ef4a556db29d99ffeb9eb7aa34faf"), looks := true }, kinds := [], alts := [], laidByText := true, laidKinds := [.data, .data, .data, .data, .sentinel, .sentinel, .pinned], laidTests := true, laidLooks := .later }
def FnShaftsUptoCardSaid : Prop := Claim7.holds Tryz.pinned (.plain (OpenSpec.upto fnShaftsSpec)) fnShaftsUptoCard

/-- THE SECOND FORM's CARD OF 'laws.FnCams'. -/
def fnCamsUptoCard : Claim7 := { stood := { row := fnCamsUptoRow, standIns := [], harness := (true, "122635cb9cb849fef46d358d897b8220cc5ef4a556db29d99ffeb9eb7aa34faf"), looks := true }, kinds := [], alts := [], laidByText := true, laidKinds := [.data, .data, .data, .data, .sentinel, .sentinel, .pinned], laidTests := true, laidLooks := .later }
def FnCamsUptoCardSaid : Prop := Claim7.holds Tryz.pinned (.plain (OpenSpec.upto fnCamsSpec)) fnCamsUptoCard

/-- THE SECOND FORM's CARD OF 'laws.FnMachines'. -/
def fnMachinesUptoCard : Claim7 := { stood := { row := fnMachinesUptoRow, standIns := [], harness := (true, "122635cb9cb849fef46d358d897b8220cc5ef4a556db29d99ffeb9eb7aa34faf"), looks := true }, kinds := [], alts := [], laidByText := true, laidKinds := [.data, .data, .data, .data, .sentinel, .sentinel, .pinned], laidTests := true, laidLooks := .later }
def FnMachinesUptoCardSaid : Prop := Claim7.holds Tryz.pinned (.plain (OpenSpec.upto fnMachinesSpec)) fnMachinesUptoCard

/-- THE SECOND FORM's CARD OF 'laws.FnPrograms'. -/
def fnProgramsUptoCard : Claim7 := { stood := { row := fnProgramsUptoRow, standIns := [], harness := (true, "122635cb9cb849fef46d358d897b8220cc5ef4a556db29d99ffeb9eb7aa34faf"), looks := true }, kinds := [], alts := [], laidByText := true, laidKinds := [.data, .data, .data, .data, .sentinel, .sentinel, .pinned], laidTests := true, laidLooks := .later }
def FnProgramsUptoCardSaid : Prop := Claim7.holds Tryz.pinned (.plain (OpenSpec.upto fnProgramsSpec)) fnProgramsUptoCard

/-- THE SECOND FORM's CARD OF 'laws.FnRepaired'. -/
def fnRepairedUptoCard : Claim7 := { stood := { row := fnRepairedUptoRow, standIns := [], harness := (true, "122635cb9cb849fef46d358d897b8220cc5ef4a556db29d99ffeb9eb7aa34faf"), looks := true }, kinds := [], alts := [], laidByText := true, laidKinds := [.data, .data, .data, .data, .sentinel, .sentinel, .pinned], laidTests := true, laidLooks := .later }
def FnRepairedUptoCardSaid : Prop := Claim7.holds Tryz.pinned (.plain (OpenSpec.upto fnRepairedSpec)) fnRepairedUptoCard
end Rows
end Go.Proofs.YtphcammdpmmlpaaGreatDoor
